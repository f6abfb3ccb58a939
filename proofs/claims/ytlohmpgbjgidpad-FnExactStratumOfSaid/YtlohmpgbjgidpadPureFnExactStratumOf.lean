/- The law of StratumOf holds for every surface: the program's list is the reference's, in new memory, and the argument stays as it is. -/
import Derived.Test.YtlohmpgbjgidpadWA
import Derived.Test.YtlohmpgbjgidpadPx1
import Derived.Test.YtlohmpgbjgidpadPx10
import Derived.Test.YtlohmpgbjgidpadPx11
import Derived.Test.YtlohmpgbjgidpadPx112
import Derived.Test.YtlohmpgbjgidpadPx113
import Derived.Test.YtlohmpgbjgidpadPx115
import Derived.Test.YtlohmpgbjgidpadPx116
import Derived.Test.YtlohmpgbjgidpadPx117
import Derived.Test.YtlohmpgbjgidpadPx12
import Derived.Test.YtlohmpgbjgidpadPx13
import Derived.Test.YtlohmpgbjgidpadPx15
import Derived.Test.YtlohmpgbjgidpadPx16
import Derived.Test.YtlohmpgbjgidpadPx17
import Derived.Test.YtlohmpgbjgidpadPx18
import Derived.Test.YtlohmpgbjgidpadPx19
import Derived.Test.YtlohmpgbjgidpadPx2
import Derived.Test.YtlohmpgbjgidpadPx20
import Derived.Test.YtlohmpgbjgidpadPx21
import Derived.Test.YtlohmpgbjgidpadPx22
import Derived.Test.YtlohmpgbjgidpadPx23
import Derived.Test.YtlohmpgbjgidpadPx24
import Derived.Test.YtlohmpgbjgidpadPx27
import Derived.Test.YtlohmpgbjgidpadPx28
import Derived.Test.YtlohmpgbjgidpadPx3
import Derived.Test.YtlohmpgbjgidpadPx31
import Derived.Test.YtlohmpgbjgidpadPx32
import Derived.Test.YtlohmpgbjgidpadPx34
import Derived.Test.YtlohmpgbjgidpadPx4
import Derived.Test.YtlohmpgbjgidpadPx5
import Derived.Test.YtlohmpgbjgidpadPx6
import Derived.Test.YtlohmpgbjgidpadPx7
import Derived.Test.YtlohmpgbjgidpadPx8
import Derived.Test.YtlohmpgbjgidpadPx9
import Derived.Test.YtlohmpgbjgidpadPx91
import Derived.Test.YtlohmpgbjgidpadPx92
import Derived.Test.YtlohmpgbjgidpadPx93
set_option linter.unusedVariables false
set_option linter.unusedSimpArgs false

namespace Go.Proofs.Ytlohmpgbjgidpad.Q
open Go.RowKit Go.Proofs.Ytlohmpgbjgidpad.P Go.Proofs.YtlohmpgbjgidpadW.PrintWords Go.Proofs.YtlohmpgbjgidpadW.PrintLast
/- Small lemmas on the printed functions' words: numbers of 64 bits, elements of lists, rounds. -/
theorem w64 {x : Int} (h : -9223372036854775808 ≤ x) (h' : x ≤ 9223372036854775807) : wrap64 x = x := by
 unfold wrap64; omega
theorem w64n {i : Nat} (h : i < 9223372036854775807) : wrap64 ((i : Int) + 1) = ((i + 1 : Nat) : Int) := by
 rw [w64 (by omega) (by omega)]; omega
theorem rdn (xs : List Int) (i : Nat) : rd xs (i : Int) = xs.getD i 0 := by simp [rd]
theorem rdg {xs : List Int} {i : Nat} (h : i < xs.length) : rd xs (i : Int) = xs[i] := by simp [rd, h]
/-- From a round on. -/
theorem Ev.from {α : Type} {g : Nat → Option α} {r : α} {K : Nat} (h : ∀ k, K ≤ k → g k = some r) : Ev g r := ⟨K, h⟩
theorem Ev.succ {α : Type} {g f : Nat → Option α} {r : α} (h : ∀ k, g (k + 1) = f k) (hf : Ev f r) : Ev g r := Ev.step h hf
theorem Ev.plain {α β : Type} {x : Option α} {f : Nat → α → Option β} {a : α} {r : β} (h : x = some a) (k : Ev (fun n => f n a) r) : Ev (fun n => x.bind (f n)) r := by
 subst h; exact k
theorem Ev.pos {α : Type} {c : Prop} [Decidable c] {g f : Nat → Option α} {r : α} (h : c) (hg : Ev g r) : Ev (fun k => if c then g k else f k) r := by
 simp only [if_pos h]; exact hg
theorem Ev.neg {α : Type} {c : Prop} [Decidable c] {g f : Nat → Option α} {r : α} (h : ¬ c) (hf : Ev f r) : Ev (fun k => if c then g k else f k) r := by
 simp only [if_neg h]; exact hf
theorem Ev.out {α : Type} {g : Nat → Option α} {r : α} (h : Ev g r) : ∃ k, g k = some r := h.rounds
theorem Ev.same {α : Type} {g f : Nat → Option α} {r : α} (h : ∀ k, g k = f k) (hf : Ev f r) : Ev g r := Ev.congr h hf

end Go.Proofs.Ytlohmpgbjgidpad.Q
namespace Go.Proofs.Ytlohmpgbjgidpad.Q
open Go.RowKit Go.Proofs.Ytlohmpgbjgidpad.P Go.Proofs.YtlohmpgbjgidpadW.PrintWords Go.Proofs.YtlohmpgbjgidpadW.PrintLast
/- What the printed functions on lists of numbers come to: copies, comparisons, marks. -/
theorem toIntS_loop (xs : List Int) (hn : xs.length < 9223372036854775807) : ∀ (d : Nat) (i : Nat) (ys : List Int), i + d = xs.length → ys.length = xs.length →
  Ev (fun k => laws_toIntS.l0 k xs ys i) (ys.take i ++ xs.drop i) := by
 intro d
 induction d with
 | zero =>
  intro i ys h hl
  refine Ev.step (fun k => by rw [laws_toIntS.l0]) ?_
  repeat (first | refine Ev.pos (by omega) ?_ | refine Ev.neg (by omega) ?_)
  rw [List.take_of_length_le (by omega), List.drop_of_length_le (by omega), List.append_nil]
  exact Ev.now _
 | succ d ih =>
  intro i ys h hl
  refine Ev.step (fun k => by rw [laws_toIntS.l0]) ?_
  repeat (first | refine Ev.pos (by omega) ?_ | refine Ev.neg (by omega) ?_)
  rw [w64n (by omega), rdg (by omega), Int.toNat_natCast]
  have := ih (i + 1) (ys.set i xs[i]) (by omega) (by simpa using hl)
  rw [List.take_succ_eq_append_getElem (by simp; omega), List.getElem_set_self, List.take_set_of_le (by omega), List.append_assoc, List.singleton_append, ← List.drop_eq_getElem_cons (by omega)] at this
  exact this
theorem toIntS_ev (xs : List Int) (hn : xs.length ≤ 35184372088832) : Ev (fun k => laws_toIntS.f k xs) xs := by
 refine Ev.same (fun k => by rw [laws_toIntS.f]) ?_
 repeat (first | refine Ev.pos (by omega) ?_ | refine Ev.neg (by omega) ?_)
 have := toIntS_loop xs (by omega) xs.length 0 (List.replicate xs.length 0) (by omega) (by simp)
 simpa using this
theorem eqIntS_loop (xs ys : List Int) (hl : xs.length = ys.length) (hn : xs.length < 9223372036854775807) : ∀ (d : Nat) (i : Nat), i + d = xs.length →
  Ev (fun k => laws_eqIntS.l0 k xs ys i) (decide (xs.drop i = ys.drop i)) := by
 intro d
 induction d with
 | zero =>
  intro i h
  refine Ev.step (fun k => by rw [laws_eqIntS.l0]) ?_
  repeat (first | refine Ev.pos (by omega) ?_ | refine Ev.neg (by omega) ?_)
  rw [List.drop_of_length_le (by omega), List.drop_of_length_le (by omega)]
  exact Ev.now _
 | succ d ih =>
  intro i h
  refine Ev.step (fun k => by rw [laws_eqIntS.l0]) ?_
  repeat (first | refine Ev.pos (by omega) ?_ | refine Ev.neg (by omega) ?_)
  rw [rdg (by omega), rdg (by omega), List.drop_eq_getElem_cons (l := xs) (i := i) (by omega), List.drop_eq_getElem_cons (l := ys) (i := i) (by omega)]
  by_cases e : xs[i] = ys[i]
  ·refine Ev.pos e ?_
   rw [w64n (by omega), decide_eq_decide.2 (show _ ↔ xs.drop (i + 1) = ys.drop (i + 1) from ⟨fun h => (List.cons.inj h).2, fun h => by rw [e, h]⟩)]
   exact ih (i + 1) (by omega)
  ·refine Ev.neg e ?_
   rw [decide_eq_false fun h => e (List.cons.inj h).1]
   exact Ev.now _
theorem eqIntS_ev (xs ys : List Int) (hn : xs.length < 9223372036854775807) : Ev (fun k => laws_eqIntS.f k xs ys) (decide (xs = ys)) := by
 refine Ev.same (fun k => by rw [laws_eqIntS.f]) ?_
 by_cases h : xs.length = ys.length
 ·refine Ev.pos (by omega) ?_
  simpa using eqIntS_loop xs ys h hn xs.length 0 (by omega)
 ·refine Ev.neg (by omega) ?_
  have : decide (xs = ys) = false := decide_eq_false fun e => h (by rw [e])
  rw [this]
  exact Ev.now _
theorem eqIntS_self (xs : List Int) (hn : xs.length < 9223372036854775807) : Ev (fun k => laws_eqIntS.f k xs xs) true := by
 simpa using eqIntS_ev xs xs hn
/-- The marks of a list: numbers one behind the other. -/
def marks (n : Nat) (a : Int) : List Int := (List.range n).map fun (j : Nat) => wrap64 (a + (j : Int))
theorem wrap_add (a b : Int) : wrap64 (wrap64 a + b) = wrap64 (a + b) := by unfold wrap64; omega
theorem marks_length (n : Nat) (a : Int) : (marks n a).length = n := by simp [marks]
theorem marks_get (n : Nat) (a : Int) (i : Nat) (h : i < n) : (marks n a)[i]'(by simpa [marks] using h) = wrap64 (a + (i : Int)) := by simp [marks]
theorem markIntS_loop (hk : Int) : ∀ (d : Nat) (i : Nat) (ys : List Int), i + d = ys.length → ys.length < 9223372036854775807 → wrap64 hk = hk →
  Ev (fun k => laws_markIntS.l0 k ys (wrap64 (hk + (i : Int))) i) (wrap64 (hk + (ys.length : Int)), ys.take i ++ (marks ys.length hk).drop i) := by
 intro d
 induction d with
 | zero =>
  intro i ys h hn hw
  refine Ev.step (fun k => by rw [laws_markIntS.l0]) ?_
  repeat (first | refine Ev.pos (by omega) ?_ | refine Ev.neg (by omega) ?_)
  rw [List.take_of_length_le (by omega), List.drop_of_length_le (by rw [marks_length]; omega), List.append_nil, show i = ys.length by omega]
  exact Ev.now _
 | succ d ih =>
  intro i ys h hn hw
  refine Ev.step (fun k => by rw [laws_markIntS.l0]) ?_
  repeat (first | refine Ev.pos (by omega) ?_ | refine Ev.neg (by omega) ?_)
  rw [w64n (by omega), Int.toNat_natCast, wrap_add]
  have := ih (i + 1) (ys.set i (wrap64 (hk + (i : Int)))) (by simpa using by omega) (by simpa using hn) hw
  rw [List.length_set, List.take_succ_eq_append_getElem (by simp; omega), List.getElem_set_self, List.take_set_of_le (by omega), List.append_assoc, List.singleton_append,
   ← marks_get ys.length hk i (by omega), ← List.drop_eq_getElem_cons (by rw [marks_length]; omega)] at this
  rw [show hk + (i : Int) + 1 = hk + ((i + 1 : Nat) : Int) by omega]
  rw [← marks_get ys.length hk i (by omega)]
  exact this
theorem markIntS_ev (xs : List Int) (a : Int) (hn : xs.length < 9223372036854775807) (hw : wrap64 a = a) : Ev (fun k => laws_markIntS.f k xs a) (wrap64 (a + (xs.length : Int)), marks xs.length a) := by
 refine Ev.same (fun k => by rw [laws_markIntS.f]) ?_
 have := markIntS_loop a xs.length 0 xs (by omega) hn hw
 simpa [hw] using this
theorem heldIntS_loop (n : Nat) (a : Int) (hn : n < 9223372036854775807) : ∀ (d : Nat) (i : Nat), i + d = n →
  Ev (fun k => laws_heldIntS.l0 k (marks n a) (wrap64 (a + (i : Int))) i) (wrap64 (a + (n : Int))) := by
 intro d
 induction d with
 | zero =>
  intro i h
  refine Ev.step (fun k => by rw [laws_heldIntS.l0]) ?_
  have := marks_length n a
  repeat (first | refine Ev.pos (by omega) ?_ | refine Ev.neg (by omega) ?_)
  rw [show i = n by omega]
  exact Ev.now _
 | succ d ih =>
  intro i h
  refine Ev.step (fun k => by rw [laws_heldIntS.l0]) ?_
  have := marks_length n a
  repeat (first | refine Ev.pos (by omega) ?_ | refine Ev.neg (by omega) ?_)
  rw [rdg (by omega), marks_get n a i (by omega)]
  refine Ev.pos rfl ?_
  rw [w64n (by omega), wrap_add, show a + (i : Int) + 1 = a + ((i + 1 : Nat) : Int) by omega]
  exact ih (i + 1) (by omega)
theorem heldIntS_ev (n : Nat) (a : Int) (hn : n < 9223372036854775807) (hw : wrap64 a = a) : Ev (fun k => laws_heldIntS.f k (marks n a) a) (wrap64 (a + (n : Int))) := by
 refine Ev.same (fun k => by rw [laws_heldIntS.f]) ?_
 have := heldIntS_loop n a hn n 0 (by omega)
 simpa [hw] using this

end Go.Proofs.Ytlohmpgbjgidpad.Q
namespace Go.Proofs.Ytlohmpgbjgidpad.Q
open Go.RowKit Go.Proofs.Ytlohmpgbjgidpad.P Go.Proofs.YtlohmpgbjgidpadW.PrintWords Go.Proofs.YtlohmpgbjgidpadW.PrintLast
/- Permutations: the two PermOk functions tell whether a list of at most 24 numbers is a permutation. -/
def permFrom (n : Nat) : List Int → List Int → Bool
 | [], _ => true
 | x :: r, pre => (decide (0 ≤ x) && decide (x < (n : Int))) && (!(pre.contains x) && permFrom n r (pre ++ [x]))
def permB (l : List Int) : Bool := decide (l.length ≤ 24) && permFrom l.length l []
/-- A permutation of the numbers from 0 up to its length. -/
structure IsPerm (l : List Int) : Prop where
 lo : ∀ x ∈ l, 0 ≤ x
 hi : ∀ x ∈ l, x < (l.length : Int)
 nodup : l.Nodup
theorem permFrom_iff (n : Nat) : ∀ (r pre : List Int), permFrom n r pre = true ↔ (∀ x ∈ r, 0 ≤ x ∧ x < (n : Int)) ∧ (∀ x ∈ r, x ∉ pre) ∧ r.Nodup
 | [], pre => by simp [permFrom]
 | x :: r, pre => by
  rw [permFrom, Bool.and_eq_true, Bool.and_eq_true, Bool.and_eq_true, permFrom_iff n r (pre ++ [x])]
  simp only [decide_eq_true_eq, Bool.not_eq_true', List.mem_cons, forall_eq_or_imp, List.nodup_cons, List.mem_append, List.mem_singleton, not_or, List.contains_eq_mem, decide_eq_false_iff_not]
  constructor
  ·rintro ⟨⟨h1, h2⟩, h3, h4, h5, h6⟩
   exact ⟨⟨⟨h1, h2⟩, h4⟩, ⟨h3, fun y hy => (h5 y hy).1⟩, fun hx => (h5 x hx).2.1 rfl, h6⟩
  ·rintro ⟨⟨⟨h1, h2⟩, h4⟩, ⟨h3, h5⟩, h6, h7⟩
   exact ⟨⟨h1, h2⟩, h3, h4, fun y hy => ⟨h5 y hy, fun e => h6 (e ▸ hy), fun h => by cases h⟩, h7⟩
theorem permB_iff (l : List Int) : permB l = true ↔ l.length ≤ 24 ∧ IsPerm l := by
 rw [permB, Bool.and_eq_true, decide_eq_true_eq, permFrom_iff]
 exact ⟨fun ⟨a, b, _, d⟩ => ⟨a, fun x hx => (b x hx).1, fun x hx => (b x hx).2, d⟩, fun ⟨a, b⟩ => ⟨a, fun x hx => ⟨b.lo x hx, b.hi x hx⟩, (fun _ _ h => by cases h), b.nodup⟩⟩
theorem spec_has_loop (l : List Int) (x : Int) (hn : l.length < 9223372036854775807) : ∀ (d i : Nat), i + d = l.length → Ev (fun k => spec_l02Has.l0 k x l (l.length : Int) i) ((l.drop i).contains x) := by
 intro d
 induction d with
 | zero =>
  intro i h
  refine Ev.step (fun k => by rw [spec_l02Has.l0]) (Ev.neg (by omega) ?_)
  rw [List.drop_of_length_le (by omega)]
  exact Ev.now _
 | succ d ih =>
  intro i h
  refine Ev.step (fun k => by rw [spec_l02Has.l0]) (Ev.pos (by omega) (Ev.pos (by omega) (Ev.pos (by omega) ?_)))
  have hi := ih (i + 1) (by omega)
  rw [rdg (by omega), w64n (by omega), List.drop_eq_getElem_cons (by omega), List.contains_cons]
  by_cases e : l[i] = x
  ·refine Ev.pos e ?_
   rw [show (x == l[i]) = true by simp [e], Bool.true_or]
   exact Ev.now _
  ·refine Ev.neg e ?_
   rw [show (x == l[i]) = false by simpa using fun h => e h.symm, Bool.false_or]
   exact hi
theorem spec_has_ev (l : List Int) (x : Int) (hn : l.length < 9223372036854775807) : Ev (fun k => spec_l02Has.f k l x) (l.contains x) :=
 Ev.same (fun k => by rw [spec_l02Has.f]; rfl) (spec_has_loop l x hn l.length 0 (by omega))
theorem in_some (a lo hi : Int) : spec_l01In.f a lo hi = some (decide (lo ≤ a) && decide (a ≤ hi)) := by
 unfold spec_l01In.f
 by_cases h : a ≥ lo
 ·rw [if_pos h, decide_eq_true (show lo ≤ a from h), Bool.true_and]
 ·rw [if_neg h, decide_eq_false (show ¬ lo ≤ a from h), Bool.false_and]
theorem spec_perm_loop (l : List Int) (hn : l.length < 9223372036854775807) : ∀ (d i : Nat), i + d = l.length → Ev (fun k => spec_PermOk.l0 k l l (l.length : Int) i) (permFrom l.length (l.drop i) (l.take i)) := by
 intro d
 induction d with
 | zero =>
  intro i h
  refine Ev.step (fun k => by rw [spec_PermOk.l0]) (Ev.neg (by omega) ?_)
  rw [List.drop_of_length_le (by omega)]
  exact Ev.now _
 | succ d ih =>
  intro i h
  refine Ev.step (fun k => by rw [spec_PermOk.l0]) (Ev.pos (by omega) (Ev.pos (by omega) (Ev.pos (by omega) ?_)))
  have hi := ih (i + 1) (by omega)
  rw [rdg (by omega), w64n (by omega), List.drop_eq_getElem_cons (by omega), permFrom, ← List.take_succ_eq_append_getElem (by omega), w64 (by omega) (by omega)]
  refine Ev.plain (in_some _ _ _) ?_
  have e : (decide (0 ≤ l[i]) && decide (l[i] ≤ (l.length : Int) - 1)) = (decide (0 ≤ l[i]) && decide (l[i] < (l.length : Int))) := by
   rw [show decide (l[i] ≤ (l.length : Int) - 1) = decide (l[i] < (l.length : Int)) from decide_eq_decide.2 (by omega)]
  rw [e]
  by_cases c : (decide (0 ≤ l[i]) && decide (l[i] < (l.length : Int))) = true
  ·refine Ev.pos c (Ev.pos (by omega) ?_)
   rw [c, Bool.true_and, Int.toNat_natCast]
   refine Ev.bind (spec_has_ev _ _ (by rw [List.length_take]; omega)) ?_
   by_cases b : (l.take i).contains l[i] = true
   ·refine Ev.pos b ?_
    rw [b, Bool.not_true, Bool.false_and]
    exact Ev.now _
   ·refine Ev.neg b ?_
    rw [show (l.take i).contains l[i] = false by simpa using b, Bool.not_false, Bool.true_and]
    exact hi
  ·refine Ev.neg c ?_
   rw [show (decide (0 ≤ l[i]) && decide (l[i] < (l.length : Int))) = false by simpa using c, Bool.false_and]
   exact Ev.now _
theorem spec_PermOk_ev (l : List Int) (hn : l.length < 9223372036854775807) : Ev (fun k => spec_PermOk.f k l) (permB l) := by
 refine Ev.same (fun k => by rw [spec_PermOk.f]) ?_
 by_cases h : (l.length : Int) > 24
 ·refine Ev.pos h ?_
  rw [permB, decide_eq_false (show ¬ l.length ≤ 24 by omega), Bool.false_and]
  exact Ev.now _
 ·refine Ev.neg h ?_
  rw [permB, decide_eq_true (show l.length ≤ 24 by omega), Bool.true_and]
  exact spec_perm_loop l hn l.length 0 (by omega)
theorem permOkL_from (n : Nat) (hn : n ≤ 24) : ∀ (r pre : List Int) (seen : List Bool), seen.length = 24 → (∀ x : Int, 0 ≤ x → x < 24 → rdOf false seen x = pre.contains x) → permOkL r n seen = permFrom n r pre
 | [], pre, seen, hl, hs => rfl
 | x :: r, pre, seen, hl, hs => by
  rw [permOkL, permFrom]
  by_cases h1 : x < 0
  ·rw [if_pos h1, decide_eq_false (show ¬ 0 ≤ x by omega), Bool.false_and, Bool.false_and]
  rw [if_neg h1, decide_eq_true (show 0 ≤ x by omega), Bool.true_and]
  by_cases h2 : (n : Int) ≤ x
  ·rw [if_pos h2, decide_eq_false (show ¬ x < (n : Int) by omega), Bool.false_and]
  rw [if_neg h2, decide_eq_true (show x < (n : Int) by omega), Bool.true_and, hs x (by omega) (by omega)]
  by_cases h3 : pre.contains x = true
  ·rw [if_pos h3, h3, Bool.not_true, Bool.false_and]
  rw [if_neg h3, show pre.contains x = false by simpa using h3, Bool.not_false, Bool.true_and]
  refine permOkL_from n hn r _ _ (by rw [List.length_set, hl]) fun y hy0 hy1 => ?_
  have := hs y hy0 hy1
  simp only [rdOf] at this ⊢
  by_cases e : y = x
  ·subst e
   have hlt : y.toNat < seen.length := by omega
   simp [List.getD, hlt]
  ·have hne : x.toNat ≠ y.toNat := by omega
   have h4 : (pre ++ [x]).contains y = pre.contains y := by
    simp [e]
   rw [h4, ← this]
   simp [List.getD, List.getElem?_set_ne hne]
theorem rd_false (n : Nat) (x : Int) : rdOf false (List.replicate n false) x = false := by
 simp only [rdOf, List.getD, List.getElem?_replicate]
 split <;> rfl
theorem impl_PermOk_some (l : List Int) : impl_PermOk.f l = some (permB l) := by
 rw [impl_PermOk.f, permB]
 by_cases h : (l.length : Int) > 24
 ·rw [if_pos h, decide_eq_false (show ¬ l.length ≤ 24 by omega), Bool.false_and]
 ·rw [if_neg h, decide_eq_true (show l.length ≤ 24 by omega), Bool.true_and, permOkL_from l.length (by omega) l [] _ (by simp)]
  intro x h0 h1
  rw [rd_false]
  rfl

end Go.Proofs.Ytlohmpgbjgidpad.Q
namespace Go.Proofs.Ytlohmpgbjgidpad.Q
open Go.RowKit Go.Proofs.Ytlohmpgbjgidpad.P Go.Proofs.YtlohmpgbjgidpadW.PrintWords Go.Proofs.YtlohmpgbjgidpadW.PrintLast
/- Permutations: every number below the length is met; inverse, product, renaming as lists. -/
theorem pig : ∀ (n : Nat) (l : List Int), l.Nodup → (∀ x ∈ l, 0 ≤ x ∧ x < (n : Int)) → l.length ≤ n
 | 0, l, _, h => by
  cases l with
  | nil => simp
  | cons x r => have := h x (by simp); omega
 | n + 1, l, hd, h => by
  by_cases hm : (n : Int) ∈ l
  ·have := pig n (l.erase (n : Int)) (hd.erase _) (fun x hx => by
    have h1 := (hd.mem_erase_iff).1 hx
    have h2 := h x h1.2
    have h3 := h1.1
    omega)
   rw [List.length_erase_of_mem hm] at this
   omega
  ·have := pig n l hd (fun x hx => by
    have h2 := h x hx
    have : x ≠ (n : Int) := fun e => hm (e ▸ hx)
    omega)
   omega
theorem IsPerm.mem {p : List Int} (h : IsPerm p) {j : Int} (h0 : 0 ≤ j) (h1 : j < (p.length : Int)) : j ∈ p := by
 apply Classical.byContradiction
 intro hn
 have := pig p.length (j :: p) (List.nodup_cons.2 ⟨hn, h.nodup⟩) (fun x hx => by
  rcases List.mem_cons.1 hx with e | e
  ·subst e; exact ⟨h0, h1⟩
  ·exact ⟨h.lo x e, h.hi x e⟩)
 simp only [List.length_cons] at this
 omega
theorem IsPerm.get_lo {p : List Int} (h : IsPerm p) {i : Nat} (hi : i < p.length) : 0 ≤ p[i] := h.lo _ (List.getElem_mem hi)
theorem IsPerm.get_hi {p : List Int} (h : IsPerm p) {i : Nat} (hi : i < p.length) : p[i] < (p.length : Int) := h.hi _ (List.getElem_mem hi)
theorem IsPerm.inj {p : List Int} (h : IsPerm p) {i j : Nat} (hi : i < p.length) (hj : j < p.length) (e : p[i] = p[j]) : i = j := by
 have H := List.pairwise_iff_getElem.1 h.nodup
 rcases Nat.lt_trichotomy i j with hlt | he | hgt
 ·exact absurd e (H i j hi hj hlt)
 ·exact he
 ·exact absurd e.symm (H j i hj hi hgt)
/-- The place of a number in a list. -/
def posOf (p : List Int) (j : Int) : Nat := p.idxOf j
theorem posOf_lt {p : List Int} {j : Int} (h : j ∈ p) : posOf p j < p.length := List.idxOf_lt_length_iff.2 h
theorem posOf_get {p : List Int} {j : Int} (h : j ∈ p) : p[posOf p j]'(posOf_lt h) = j := by
 unfold posOf; exact List.getElem_idxOf (posOf_lt h)
theorem IsPerm.posOf_at {p : List Int} (h : IsPerm p) {i : Nat} (hi : i < p.length) : posOf p p[i] = i :=
 h.inj (posOf_lt (List.getElem_mem hi)) hi (posOf_get (List.getElem_mem hi))
/-- The inverse. -/
def invL (p : List Int) : List Int := (List.range p.length).map fun (j : Nat) => (posOf p (j : Int) : Int)
/-- The product: first p, then q. -/
def thenL (p q : List Int) : List Int := p.map (rd q ·)
theorem invL_length (p : List Int) : (invL p).length = p.length := by simp [invL]
theorem thenL_length (p q : List Int) : (thenL p q).length = p.length := by simp [thenL]
theorem invL_get (p : List Int) {j : Nat} (h : j < p.length) : (invL p)[j]'(by rw [invL_length]; exact h) = (posOf p (j : Int) : Int) := by simp [invL]
theorem thenL_get (p q : List Int) {j : Nat} (h : j < p.length) : (thenL p q)[j]'(by rw [thenL_length]; exact h) = rd q p[j] := by simp [thenL]
theorem rd_of {q : List Int} {x : Int} (h0 : 0 ≤ x) (h1 : x < (q.length : Int)) : rd q x = q[x.toNat]'(by omega) := by
 obtain ⟨n, rfl⟩ := Int.eq_ofNat_of_zero_le h0
 rw [rdg (by omega)]
 simp
theorem nodup_of_inj {l : List Int} (h : ∀ (i j : Nat) (hi : i < l.length) (hj : j < l.length), l[i] = l[j] → i = j) : l.Nodup := by
 refine List.pairwise_iff_getElem.2 fun i j hi hj hlt e => ?_
 have := h i j hi hj e
 omega
theorem IsPerm.mk' {l : List Int} (hb : ∀ (i : Nat) (hi : i < l.length), 0 ≤ l[i] ∧ l[i] < (l.length : Int)) (h : ∀ (i j : Nat) (hi : i < l.length) (hj : j < l.length), l[i] = l[j] → i = j) : IsPerm l where
 lo := fun x hx => by obtain ⟨i, hi, rfl⟩ := List.getElem_of_mem hx; exact (hb i hi).1
 hi := fun x hx => by obtain ⟨i, hi, rfl⟩ := List.getElem_of_mem hx; exact (hb i hi).2
 nodup := nodup_of_inj h
theorem IsPerm.inv {p : List Int} (h : IsPerm p) : IsPerm (invL p) := by
 refine IsPerm.mk' (fun i hi => ?_) (fun i j hi hj e => ?_)
 ·rw [invL_length] at hi
  rw [invL_get p hi, invL_length]
  have := posOf_lt (h.mem (j := (i : Int)) (by omega) (by omega))
  omega
 ·rw [invL_length] at hi hj
  rw [invL_get p hi, invL_get p hj] at e
  have a := h.mem (j := (i : Int)) (by omega) (by omega)
  have b := h.mem (j := (j : Int)) (by omega) (by omega)
  have e' : posOf p (i : Int) = posOf p (j : Int) := by omega
  have := posOf_get a
  have := posOf_get b
  simp only [e'] at *
  omega
theorem IsPerm.then {p q : List Int} (h : IsPerm p) (hq : IsPerm q) (hl : p.length = q.length) : IsPerm (thenL p q) := by
 refine IsPerm.mk' (fun i hi => ?_) (fun i j hi hj e => ?_)
 ·rw [thenL_length] at hi
  rw [thenL_get p q hi, thenL_length]
  have a := h.get_lo hi
  have b := h.get_hi hi
  rw [rd_of a (by omega)]
  have := hq.get_lo (i := p[i].toNat) (by omega)
  have := hq.get_hi (i := p[i].toNat) (by omega)
  omega
 ·rw [thenL_length] at hi hj
  rw [thenL_get p q hi, thenL_get p q hj] at e
  have a := h.get_lo hi
  have b := h.get_hi hi
  have c := h.get_lo hj
  have d := h.get_hi hj
  rw [rd_of a (by omega), rd_of c (by omega)] at e
  have := hq.inj (by omega) (by omega) e
  exact h.inj hi hj (by omega)

end Go.Proofs.Ytlohmpgbjgidpad.Q
namespace Go.Proofs.Ytlohmpgbjgidpad.Q
open Go.RowKit Go.Proofs.Ytlohmpgbjgidpad.P Go.Proofs.YtlohmpgbjgidpadW.PrintWords Go.Proofs.YtlohmpgbjgidpadW.PrintLast
/- What is met from a square by two permutations: the reference's list, and the program's. -/
def addNew (out : List Int) (x : Int) : List Int := if out.contains x = true then out else out ++ [x]
def reachF (p q : List Int) : Nat → List Int → Nat → List Int
 | 0, out, _ => out
 | d + 1, out, a => if a < out.length then reachF p q d (addNew (addNew out (rd p (rd out (a : Int)))) (rd q (rd out (a : Int)))) (a + 1) else out
theorem wr1 : wrap64 (0 + 1) = 1 := w64 (by omega) (by omega)
theorem wr2 : wrap64 (1 + 1) = 2 := w64 (by omega) (by omega)
/-- The squares in the order in which they are met. -/
def reachL (p q : List Int) (s : Int) : List Int := reachF p q (p.length + 1) [s] 0
/-- A list of different numbers below n. -/
structure Few (n : Nat) (out : List Int) : Prop where
 lo : ∀ x ∈ out, 0 ≤ x
 hi : ∀ x ∈ out, x < (n : Int)
 nodup : out.Nodup
theorem Few.len {n : Nat} {out : List Int} (h : Few n out) : out.length ≤ n := pig n out h.nodup fun x hx => ⟨h.lo x hx, h.hi x hx⟩
theorem mem_addNew {out : List Int} {x y : Int} : y ∈ addNew out x ↔ y ∈ out ∨ y = x := by
 unfold addNew
 split
 ·rename_i h
  constructor
  ·exact .inl
  ·rintro (h' | rfl)
   ·exact h'
   ·simpa using h
 ·simp
theorem Few.add {n : Nat} {out : List Int} (h : Few n out) {x : Int} (h0 : 0 ≤ x) (h1 : x < (n : Int)) : Few n (addNew out x) where
 lo := fun y hy => (mem_addNew.1 hy).elim (h.lo y) fun e => by rw [e]; exact h0
 hi := fun y hy => (mem_addNew.1 hy).elim (h.hi y) fun e => by rw [e]; exact h1
 nodup := by
  unfold addNew
  split
  ·exact h.nodup
  ·rename_i h'
   rw [List.nodup_append]
   refine ⟨h.nodup, by simp, ?_⟩
   intro a ha b hb e
   simp only [List.mem_singleton] at hb
   subst hb; subst e
   exact h' (by simpa using ha)
theorem addNew_length (out : List Int) (x : Int) : out.length ≤ (addNew out x).length := by
 unfold addNew
 split
 ·omega
 ·simp
theorem rd_perm {p : List Int} (hp : IsPerm p) {x : Int} (h0 : 0 ≤ x) (h1 : x < (p.length : Int)) : 0 ≤ rd p x ∧ rd p x < (p.length : Int) := by
 rw [rd_of h0 h1]
 exact ⟨hp.get_lo _, hp.get_hi _⟩
theorem rd_mem {out : List Int} {a : Nat} (h : a < out.length) : rd out (a : Int) ∈ out := by rw [rdg h]; exact List.getElem_mem h
theorem few_one {n : Nat} {s : Int} (h0 : 0 ≤ s) (h1 : s < (n : Int)) : Few n [s] := ⟨by simpa using h0, by simpa using h1, by simp⟩
theorem spec_reach_loop (p q : List Int) (hp : IsPerm p) (hq : IsPerm q) (hl : p.length = q.length) (hn : p.length ≤ 24) : ∀ (d a : Nat) (out : List Int), p.length + 1 ≤ a + d → a ≤ out.length → Few p.length out →
  Ev (fun k => spec_l02Reach.l0 k p q out (a : Int)) (reachF p q d out a) := by
 intro d
 induction d with
 | zero => intro a out h ha hf; have := hf.len; omega
 | succ d ih =>
  intro a out h ha hf
  have len := hf.len
  refine Ev.step (fun k => by rw [spec_l02Reach.l0]) ?_
  rw [reachF]
  by_cases c : a < out.length
  ·rw [if_pos c]
   have m := rd_mem c
   have x0 := hf.lo _ m
   have x1 := hf.hi _ m
   have bp := rd_perm hp x0 x1
   have bq := rd_perm hq x0 (by omega)
   have f1 := hf.add bp.1 bp.2
   have f2 := f1.add bq.1 (by omega)
   have l1 := addNew_length out (rd p (rd out (a : Int)))
   have l2 := addNew_length (addNew out (rd p (rd out (a : Int)))) (rd q (rd out (a : Int)))
   have n1 := f1.len
   have n2 := f2.len
   have next := ih (a + 1) _ (by omega) (by omega) f2
   refine Ev.pos (by omega) (Ev.pos (by omega) (Ev.pos x0 (Ev.pos x1 (Ev.pos (by omega) (Ev.plain rfl ?_)))))
   generalize rd p (rd out (a : Int)) = x at *
   generalize rd q (rd out (a : Int)) = y at *
   have r0 : rd [x, y] 0 = x := rfl
   have r1 : rd [x, y] 1 = y := rfl
   have tail : ∀ o : List Int, o.length ≤ 24 → addNew o y = addNew (addNew out x) y → Ev (fun k => spec_l02Reach.l1 k p q o (a : Int) [x, y] 2 1) (reachF p q d (addNew (addNew out x) y) (a + 1)) := by
    intro o ho e
    refine Ev.step (fun k => by rw [spec_l02Reach.l1]) (Ev.pos (by omega) (Ev.pos (by omega) (Ev.pos (by simp) ?_)))
    rw [r1]
    refine Ev.bind (spec_has_ev o y (by omega)) ?_
    by_cases b : o.contains y = true
    ·refine Ev.pos b (Ev.step (fun k => by rw [spec_l02Reach.l1]) (Ev.neg (by rw [wr2]; omega) ?_))
     rw [w64n (by omega)]
     rw [addNew, if_pos b] at e
     rw [e]; exact next
    ·refine Ev.neg b (Ev.pos (by omega) (Ev.step (fun k => by rw [spec_l02Reach.l1]) (Ev.neg (by rw [wr2]; omega) ?_)))
     rw [w64n (by omega)]
     rw [addNew, if_neg b] at e
     rw [e]; exact next
   refine Ev.step (fun k => by rw [spec_l02Reach.l1]) (Ev.pos (by simp) (Ev.pos (by omega) (Ev.pos (by simp) ?_)))
   rw [r0, wr1]
   refine Ev.bind (spec_has_ev out x (by omega)) ?_
   by_cases b : out.contains x = true
   ·refine Ev.pos b ?_
    exact tail out (by omega) (by rw [show addNew out x = out by rw [addNew, if_pos b]])
   ·refine Ev.neg b (Ev.pos (by omega) ?_)
    have e : addNew out x = out ++ [x] := by rw [addNew, if_neg b]
    rw [← e]
    exact tail _ (by omega) rfl
  ·rw [if_neg c]
   exact Ev.neg (by omega) (Ev.now _)
theorem spec_l02Reach_ev (p q : List Int) (hp : IsPerm p) (hq : IsPerm q) (hl : p.length = q.length) (hn : p.length ≤ 24) {s : Int} (h0 : 0 ≤ s) (h1 : s < (p.length : Int)) : Ev (fun k => spec_l02Reach.f k p q s) (reachL p q s) :=
 Ev.same (fun k => by rw [spec_l02Reach.f]; rfl) (spec_reach_loop p q hp hq hl hn (p.length + 1) 0 [s] (by omega) (by simp) (few_one h0 h1))

end Go.Proofs.Ytlohmpgbjgidpad.Q
namespace Go.Proofs.Ytlohmpgbjgidpad.Q
open Go.RowKit Go.Proofs.Ytlohmpgbjgidpad.P Go.Proofs.YtlohmpgbjgidpadW.PrintWords Go.Proofs.YtlohmpgbjgidpadW.PrintLast
/- The two IsTransitive functions tell whether every square is met from the first one. -/
theorem seen_set {seen : List Bool} {out : List Int} {n : Nat} (hl : seen.length = n) (hs : ∀ x : Int, 0 ≤ x → x < (n : Int) → rdOf false seen x = out.contains x) {y : Int} (h0 : 0 ≤ y) (h1 : y < (n : Int)) :
  ∀ x : Int, 0 ≤ x → x < (n : Int) → rdOf false (seen.set y.toNat true) x = (out ++ [y]).contains x := by
 intro x x0 x1
 have := hs x x0 x1
 simp only [rdOf] at this ⊢
 by_cases e : x = y
 ·subst e
  have hlt : x.toNat < seen.length := by omega
  simp [List.getD, hlt]
 ·have hne : y.toNat ≠ x.toNat := by omega
  have h4 : (out ++ [y]).contains x = out.contains x := by simp [e]
  rw [h4, ← this]
  simp [List.getD, List.getElem?_set_ne hne]
theorem impl_trans_loop (p q : List Int) (hp : IsPerm p) (hq : IsPerm q) (hl : p.length = q.length) (hn : p.length ≤ 24) : ∀ (d a : Nat) (out : List Int) (seen : List Bool), p.length + 1 ≤ a + d → a ≤ out.length → Few p.length out →
  seen.length = p.length → (∀ x : Int, 0 ≤ x → x < (p.length : Int) → rdOf false seen x = out.contains x) →
  Ev (fun k => impl_IsTransitive.l0 k p q seen out (a : Int)) (decide ((reachF p q d out a).length = p.length)) := by
 intro d
 induction d with
 | zero => intro a out seen h ha hf; have := hf.len; omega
 | succ d ih =>
  intro a out seen h ha hf sl hs
  have len := hf.len
  refine Ev.step (fun k => by rw [impl_IsTransitive.l0]) ?_
  rw [reachF]
  by_cases c : a < out.length
  ·rw [if_pos c]
   have m := rd_mem c
   have x0 := hf.lo _ m
   have x1 := hf.hi _ m
   have bp := rd_perm hp x0 x1
   have bq := rd_perm hq x0 (by omega)
   have f1 := hf.add bp.1 bp.2
   have f2 := f1.add bq.1 (by omega)
   have l1 := addNew_length out (rd p (rd out (a : Int)))
   have l2 := addNew_length (addNew out (rd p (rd out (a : Int)))) (rd q (rd out (a : Int)))
   have n1 := f1.len
   have n2 := f2.len
   have next := fun s => ih (a + 1) _ s (by omega) (by omega) f2
   refine Ev.pos (by omega) (Ev.pos (by omega) (Ev.pos x0 (Ev.pos x1 (Ev.pos (by omega) (Ev.plain rfl ?_)))))
   rw [← hl] at bq
   generalize rd p (rd out (a : Int)) = x at *
   generalize rd q (rd out (a : Int)) = y at *
   have r0 : rd [x, y] 0 = x := rfl
   have r1 : rd [x, y] 1 = y := rfl
   have tail : ∀ (o : List Int) (s : List Bool), o.length ≤ 24 → addNew o y = addNew (addNew out x) y → s.length = p.length → (∀ x : Int, 0 ≤ x → x < (p.length : Int) → rdOf false s x = o.contains x) →
     Ev (fun k => impl_IsTransitive.l1 k p q s o (a : Int) [x, y] 2 1) (decide ((reachF p q d (addNew (addNew out x) y) (a + 1)).length = p.length)) := by
    intro o s ho e hsl hso
    refine Ev.step (fun k => by rw [impl_IsTransitive.l1]) (Ev.pos (by omega) (Ev.pos (by omega) (Ev.pos (by simp) ?_)))
    rw [r1]
    refine Ev.pos (by omega) (Ev.pos (by omega) ?_)
    rw [hso y bq.1 bq.2]
    by_cases b : o.contains y = true
    ·refine Ev.pos b (Ev.step (fun k => by rw [impl_IsTransitive.l1]) (Ev.neg (by rw [wr2]; omega) ?_))
     rw [w64n (by omega)]
     rw [addNew, if_pos b] at e
     rw [← e] at next
     rw [← e]
     exact next s hsl hso
    ·refine Ev.neg b (Ev.pos (by omega) (Ev.step (fun k => by rw [impl_IsTransitive.l1]) (Ev.neg (by rw [wr2]; omega) ?_)))
     rw [w64n (by omega)]
     rw [addNew, if_neg b] at e
     rw [← e] at next
     rw [← e]
     exact next _ (by rw [List.length_set, hsl]) (seen_set hsl hso bq.1 bq.2)
   refine Ev.step (fun k => by rw [impl_IsTransitive.l1]) (Ev.pos (by simp) (Ev.pos (by omega) (Ev.pos (by simp) ?_)))
   rw [r0, wr1]
   refine Ev.pos (by omega) (Ev.pos (by omega) ?_)
   rw [hs x bp.1 bp.2]
   by_cases b : out.contains x = true
   ·refine Ev.pos b ?_
    exact tail out seen (by omega) (by rw [show addNew out x = out by rw [addNew, if_pos b]]) sl hs
   ·refine Ev.neg b (Ev.pos (by omega) ?_)
    have e : addNew out x = out ++ [x] := by rw [addNew, if_neg b]
    have ss := seen_set sl hs bp.1 bp.2
    rw [← e] at ss ⊢
    exact tail _ _ (by omega) rfl (by rw [List.length_set, sl]) ss
  ·rw [if_neg c]
   refine Ev.neg (by omega) ?_
   rw [show ((out.length : Int) == (p.length : Int)) = decide (out.length = p.length) by rw [Bool.eq_iff_iff]; simp; omega]
   exact Ev.now _
/-- What IsTransitive returns. -/
def transB (p q : List Int) : Bool := permB p && (permB q && (decide (p.length = q.length) && (decide (0 < p.length) && decide ((reachL p q 0).length = p.length))))
theorem spec_IsTransitive_ev (p q : List Int) (hp : p.length < 9223372036854775807) (hq : q.length < 9223372036854775807) : Ev (fun k => spec_IsTransitive.f k p q) (transB p q) := by
 refine Ev.same (fun k => by rw [spec_IsTransitive.f]) (Ev.bind (spec_PermOk_ev p hp) ?_)
 unfold transB
 by_cases h : permB p = true
 ·refine Ev.pos h (Ev.bind (spec_PermOk_ev q hq) ?_)
  rw [h, Bool.true_and]
  by_cases h' : permB q = true
  ·rw [h', Bool.true_and]
   refine Ev.pos rfl ?_
   by_cases e : p.length = q.length
   ·rw [decide_eq_true e, Bool.true_and]
    refine Ev.pos (by omega) ?_
    by_cases z : 0 < p.length
    ·rw [decide_eq_true z, Bool.true_and]
     have a := (permB_iff p).1 h
     have b := (permB_iff q).1 h'
     refine Ev.pos (by omega) (Ev.bind (spec_l02Reach_ev p q a.2 b.2 e a.1 (s := 0) (by omega) (by omega)) ?_)
     rw [show (((reachL p q 0).length : Int) == (p.length : Int)) = decide ((reachL p q 0).length = p.length) by rw [Bool.eq_iff_iff]; simp; omega]
     exact Ev.now _
    ·rw [decide_eq_false z, Bool.false_and]
     exact Ev.neg (by omega) (Ev.now _)
   ·rw [decide_eq_false e, Bool.false_and]
    exact Ev.neg (by omega) (Ev.now _)
  ·rw [show permB q = false by simpa using h', Bool.false_and]
   exact Ev.neg (by simp) (Ev.now _)
 ·rw [show permB p = false by simpa using h, Bool.false_and]
  exact Ev.neg (by simp) (Ev.now _)
theorem impl_IsTransitive_ev (p q : List Int) : Ev (fun k => impl_IsTransitive.f k p q) (transB p q) := by
 have no : Ev (fun k => impl_IsTransitive.j0 k p q true) false := Ev.step (fun k => by rw [impl_IsTransitive.j0]) (Ev.pos rfl (Ev.now _))
 refine Ev.same (fun k => by rw [impl_IsTransitive.f]) (Ev.plain (impl_PermOk_some p) ?_)
 unfold transB
 by_cases h : permB p = true
 ·refine Ev.pos h (Ev.plain (impl_PermOk_some q) ?_)
  rw [h, Bool.true_and]
  by_cases h' : permB q = true
  ·rw [h', Bool.true_and]
   refine Ev.pos rfl ?_
   by_cases e : p.length = q.length
   ·rw [decide_eq_true e, Bool.true_and]
    refine Ev.pos (by omega) ?_
    by_cases z : 0 < p.length
    ·rw [decide_eq_true z, Bool.true_and, show ((p.length : Int) == 0) = false by rw [beq_eq_false_iff_ne]; omega]
     have a := (permB_iff p).1 h
     have b := (permB_iff q).1 h'
     refine Ev.step (fun k => by rw [impl_IsTransitive.j0]) (Ev.neg (by simp) (Ev.pos (by omega) (Ev.pos (by omega) (Ev.plain rfl ?_))))
     refine Ev.pos (by simp; omega) ?_
     refine impl_trans_loop p q a.2 b.2 e a.1 (p.length + 1) 0 [0] _ (by omega) (by simp) (few_one (by omega) (by omega)) (by simp) ?_
     have := seen_set (seen := List.replicate p.length false) (out := []) (n := p.length) (by simp) (fun x _ _ => by rw [rd_false]; rfl) (y := 0) (by omega) (by omega)
     simpa using this
    ·rw [decide_eq_false z, Bool.false_and, show ((p.length : Int) == 0) = true by rw [beq_iff_eq]; omega]
     exact no
   ·rw [decide_eq_false e, Bool.false_and]
    exact Ev.neg (by omega) no
  ·rw [show permB q = false by simpa using h', Bool.false_and]
   exact Ev.neg (by simp) no
 ·rw [show permB p = false by simpa using h, Bool.false_and]
  exact Ev.neg (by simp) no

end Go.Proofs.Ytlohmpgbjgidpad.Q
namespace Go.Proofs.Ytlohmpgbjgidpad.Q
open Go.RowKit Go.Proofs.Ytlohmpgbjgidpad.P Go.Proofs.YtlohmpgbjgidpadW.PrintWords Go.Proofs.YtlohmpgbjgidpadW.PrintLast
/- Surfaces: two lists; sizes, copies, comparisons. -/
theorem sz_some (l : List Int) (a : Int) (h0 : 0 ≤ a) (h1 : a ≤ 1048576) (hn : l.length ≤ 9223372036854775807) : laws_szIntS.f l a = some (if a < (l.length : Int) then -1 else a - (l.length : Int)) := by
 rw [laws_szIntS.f, w64 (by omega) (by omega)]
 by_cases c : a < (l.length : Int)
 ·rw [if_pos (by omega), if_pos c]
 ·rw [if_neg (by omega), if_neg c]
/-- The two lists are within what is left of the bound. -/
theorem szS_big (r u : List Int) (a : Int) (h0 : 0 ≤ a) (h1 : a ≤ 1048576) (hr : r.length ≤ 9223372036854775807) (hu : u.length ≤ 9223372036854775807) (h : a < (r.length : Int) + (u.length : Int)) : laws_szSurface.f r u a = some (-1) := by
 rw [laws_szSurface.f, sz_some r a h0 h1 hr]
 by_cases c : a < (r.length : Int)
 ·rw [if_pos c, Option.bind_some, if_pos (by omega)]
 ·rw [if_neg c, Option.bind_some, if_neg (by omega), sz_some u _ (by omega) (by omega) hu, if_pos (by omega), Option.bind_some, if_pos (by omega)]
theorem szS_small (r u : List Int) (a : Int) (h1 : a ≤ 1048576) (h : (r.length : Int) + (u.length : Int) ≤ a) : laws_szSurface.f r u a = some (a - (r.length : Int) - (u.length : Int)) := by
 rw [laws_szSurface.f, sz_some r a (by omega) h1 (by omega), if_neg (by omega), Option.bind_some, if_neg (by omega), sz_some u _ (by omega) (by omega) (by omega), if_neg (by omega), Option.bind_some, if_neg (by omega)]
theorem toSurface_ev (r u : List Int) (hr : r.length ≤ 35184372088832) (hu : u.length ≤ 35184372088832) : Ev (fun k => laws_toSurface.f k r u) (r, u) :=
 Ev.same (fun k => by rw [laws_toSurface.f]) (Ev.bind (toIntS_ev r hr) (Ev.bind (toIntS_ev u hu) (Ev.now (r, u))))
theorem eqSurface_self (r u : List Int) (hr : r.length < 9223372036854775807) (hu : u.length < 9223372036854775807) : Ev (fun k => laws_eqSurface.f k r u r u) true :=
 Ev.same (fun k => by rw [laws_eqSurface.f]) (Ev.bind (eqIntS_self r hr) (Ev.pos rfl (Ev.bind (eqIntS_self u hu) (Ev.pos rfl (Ev.now _)))))

end Go.Proofs.Ytlohmpgbjgidpad.Q
namespace Go.Proofs.Ytlohmpgbjgidpad.Q
open Go.RowKit Go.Proofs.Ytlohmpgbjgidpad.P Go.Proofs.YtlohmpgbjgidpadW.PrintWords Go.Proofs.YtlohmpgbjgidpadW.PrintLast
/- Marks of a surface's two lists. -/
theorem w1 (n : Nat) (h : n ≤ 1048576) : wrap64 (1 + (n : Int)) = 1 + (n : Int) := w64 (by omega) (by omega)
theorem markSurface_any (r u : List Int) (h : (r.length : Int) + (u.length : Int) ≤ 1048576) : Ev (fun k => laws_markSurface.f k r u 1) (1 + (r.length : Int) + (u.length : Int), marks r.length 1, marks u.length (1 + (r.length : Int))) := by
 refine Ev.same (fun k => by rw [laws_markSurface.f]) ?_
 refine Ev.bind (markIntS_ev r 1 (by omega) (w64 (by omega) (by omega))) ?_
 rw [w1 _ (by omega)]
 refine Ev.bind (markIntS_ev u (1 + (r.length : Int)) (by omega) (w64 (by omega) (by omega))) ?_
 rw [w64 (by omega) (by omega)]
 exact Ev.now _

end Go.Proofs.Ytlohmpgbjgidpad.Q
namespace Go.Proofs.Ytlohmpgbjgidpad.Q
open Go.RowKit Go.Proofs.Ytlohmpgbjgidpad.P Go.Proofs.YtlohmpgbjgidpadW.PrintWords Go.Proofs.YtlohmpgbjgidpadW.PrintLast
/- The two SurfaceOk functions. -/
theorem spec_SurfaceOk_ev (r u : List Int) (hr : r.length < 9223372036854775807) (hu : u.length < 9223372036854775807) : Ev (fun k => spec_SurfaceOk.f k r u) (transB r u) :=
 Ev.same (fun k => by rw [spec_SurfaceOk.f]) (Ev.bind (spec_IsTransitive_ev r u hr hu) (Ev.now _))
theorem impl_SurfaceOk_ev (r u : List Int) : Ev (fun k => impl_SurfaceOk.f k r u) (transB r u) :=
 Ev.same (fun k => by rw [impl_SurfaceOk.f]) (Ev.bind (impl_IsTransitive_ev r u) (Ev.now _))
/-- What is known of a valid surface. -/
structure IsSurf (r u : List Int) : Prop where
 right : IsPerm r
 up : IsPerm u
 same : r.length = u.length
 pos : 0 < r.length
 le : r.length ≤ 24
 all : (reachL r u 0).length = r.length
theorem transB_iff (r u : List Int) : transB r u = true ↔ IsSurf r u := by
 unfold transB
 simp only [Bool.and_eq_true, decide_eq_true_eq, permB_iff]
 exact ⟨fun ⟨⟨a, b⟩, ⟨_, d⟩, e, f, g⟩ => ⟨b, d, e, f, a, g⟩, fun ⟨a, b, c, d, e, f⟩ => ⟨⟨e, a⟩, ⟨by omega, b⟩, c, d, f⟩⟩

end Go.Proofs.Ytlohmpgbjgidpad.Q
namespace Go.Proofs.Ytlohmpgbjgidpad.Q
open Go.RowKit Go.Proofs.Ytlohmpgbjgidpad.P Go.Proofs.YtlohmpgbjgidpadW.PrintWords Go.Proofs.YtlohmpgbjgidpadW.PrintLast
/- What the four moves make of a valid surface. -/
theorem IsSurf.permR {r u : List Int} (h : IsSurf r u) : permB r = true := (permB_iff r).2 ⟨h.le, h.right⟩
theorem IsSurf.permU {r u : List Int} (h : IsSurf r u) : permB u = true := (permB_iff u).2 ⟨by have := h.same; have := h.le; omega, h.up⟩
theorem IsSurf.permI {r u : List Int} (h : IsSurf r u) : permB (invL r) = true := (permB_iff _).2 ⟨by rw [invL_length]; exact h.le, h.right.inv⟩
theorem IsSurf.leU {r u : List Int} (h : IsSurf r u) : u.length ≤ 24 := by have := h.same; have := h.le; omega
theorem perm_in {p q : List Int} (h : IsPerm p) (hl : p.length = q.length) : ∀ (i : Nat) (hi : i < p.length), 0 ≤ p[i] ∧ p[i] < (q.length : Int) := fun i hi => ⟨h.get_lo hi, by have := h.get_hi hi; omega⟩

end Go.Proofs.Ytlohmpgbjgidpad.Q
namespace Go.Proofs.Ytlohmpgbjgidpad.Q
open Go.RowKit Go.Proofs.Ytlohmpgbjgidpad.P Go.Proofs.YtlohmpgbjgidpadW.PrintWords Go.Proofs.YtlohmpgbjgidpadW.PrintLast
/- The permutation of one round. -/
def aroundL (r u : List Int) : List Int := thenL (thenL r u) (thenL (invL r) (invL u))
theorem aroundL_length (r u : List Int) : (aroundL r u).length = r.length := by simp [aroundL, thenL_length]
theorem aroundL_perm {r u : List Int} (h : IsSurf r u) : IsPerm (aroundL r u) :=
 (h.right.then h.up h.same).then (h.right.inv.then h.up.inv (by rw [invL_length, invL_length, h.same])) (by rw [thenL_length, thenL_length, invL_length])
def aroundB (r u : List Int) : List Int := if transB r u = true then aroundL r u else []

end Go.Proofs.Ytlohmpgbjgidpad.Q
namespace Go.Proofs.Ytlohmpgbjgidpad.Q
open Go.RowKit Go.Proofs.Ytlohmpgbjgidpad.P Go.Proofs.YtlohmpgbjgidpadW.PrintWords Go.Proofs.YtlohmpgbjgidpadW.PrintLast
/- From every square of a valid surface all squares are met. -/
theorem rd_inj {p : List Int} (hp : IsPerm p) {x y : Int} (x0 : 0 ≤ x) (x1 : x < (p.length : Int)) (y0 : 0 ≤ y) (y1 : y < (p.length : Int)) (e : rd p x = rd p y) : x = y := by
 rw [rd_of x0 x1, rd_of y0 y1] at e
 have := hp.inj (by omega) (by omega) e
 omega

end Go.Proofs.Ytlohmpgbjgidpad.Q
namespace Go.Proofs.Ytlohmpgbjgidpad.Q
open Go.RowKit Go.Proofs.Ytlohmpgbjgidpad.P Go.Proofs.YtlohmpgbjgidpadW.PrintWords Go.Proofs.YtlohmpgbjgidpadW.PrintLast
/- A permutation, applied many times. -/
def powP (p : List Int) : Nat → Int → Int
 | 0, x => x
 | n + 1, x => rd p (powP p n x)
theorem powP_in {p : List Int} (hp : IsPerm p) {x : Int} (h0 : 0 ≤ x) (h1 : x < (p.length : Int)) : ∀ n, 0 ≤ powP p n x ∧ powP p n x < (p.length : Int)
 | 0 => ⟨h0, h1⟩
 | n + 1 => rd_perm hp (powP_in hp h0 h1 n).1 (powP_in hp h0 h1 n).2
theorem powP_add (p : List Int) (x : Int) (m : Nat) : ∀ n, powP p (m + n) x = powP p n (powP p m x)
 | 0 => rfl
 | n + 1 => by rw [← Nat.add_assoc, powP, powP, powP_add p x m n]
theorem powP_inj {p : List Int} (hp : IsPerm p) {x y : Int} (x0 : 0 ≤ x) (x1 : x < (p.length : Int)) (y0 : 0 ≤ y) (y1 : y < (p.length : Int)) : ∀ n, powP p n x = powP p n y → x = y
 | 0, e => e
 | n + 1, e => by
  have a := powP_in hp x0 x1 n
  have b := powP_in hp y0 y1 n
  exact powP_inj hp x0 x1 y0 y1 n (rd_inj hp a.1 a.2 b.1 b.2 e)

end Go.Proofs.Ytlohmpgbjgidpad.Q
namespace Go.Proofs.Ytlohmpgbjgidpad.Q
open Go.RowKit Go.Proofs.Ytlohmpgbjgidpad.P Go.Proofs.YtlohmpgbjgidpadW.PrintWords Go.Proofs.YtlohmpgbjgidpadW.PrintLast
/- The cycles of a permutation: what both functions walk through. -/
def cycF (p : List Int) : Nat → List Bool → Int → List Int → List Bool × List Int
 | 0, seen, _, cyc => (seen, cyc)
 | d + 1, seen, x, cyc => if rdOf false seen x = true then (seen, cyc) else cycF p d (seen.set x.toNat true) (rd p x) (cyc ++ [x])
def cycO (p : List Int) : Nat → Nat → List Bool → List (List Int) → List (List Int)
 | 0, _, _, out => out
 | d + 1, i, seen, out => if rdOf false seen (i : Int) = true then cycO p d (i + 1) seen out else cycO p d (i + 1) (cycF p (p.length + 1) seen (i : Int) []).1 (out ++ [(cycF p (p.length + 1) seen (i : Int) []).2])
def cycL (p : List Int) : List (List Int) := cycO p p.length 0 (List.replicate p.length false) []
def cycB (p : List Int) : List (List Int) := if permB p = true then cycL p else []
theorem count_seen {seen : List Bool} {x : Int} (h0 : 0 ≤ x) (h1 : x < (seen.length : Int)) (h : ¬ rdOf false seen x = true) : (seen.set x.toNat true).count false + 1 = seen.count false := by
 obtain ⟨j, rfl⟩ := Int.eq_ofNat_of_zero_le h0
 have hj : j < seen.length := by omega
 have hf : seen[j] = false := by simpa [rdOf, hj] using h
 have hm : false ∈ seen := hf ▸ List.getElem_mem hj
 have hp : 0 < seen.count false := List.count_pos_iff.2 hm
 rw [Int.toNat_natCast, List.count_set hj, hf]
 simp
 omega
theorem cycF_seen (p : List Int) : ∀ (d : Nat) (seen : List Bool) (x : Int) (cyc : List Int), (cycF p d seen x cyc).1.length = seen.length ∧ cyc.length ≤ (cycF p d seen x cyc).2.length
 | 0, _, _, _ => ⟨rfl, Nat.le_refl _⟩
 | d + 1, seen, x, cyc => by
  rw [cycF]
  split
  ·exact ⟨rfl, Nat.le_refl _⟩
  ·have := cycF_seen p d (seen.set x.toNat true) (rd p x) (cyc ++ [x])
   rw [List.length_set, List.length_append] at this
   exact ⟨this.1, by omega⟩
theorem cycF_pos (p : List Int) (d : Nat) (seen : List Bool) (x : Int) (h : ¬ rdOf false seen x = true) : 0 < (cycF p (d + 1) seen x []).2.length := by
 rw [cycF, if_neg h]
 have := (cycF_seen p d (seen.set x.toNat true) (rd p x) ([] ++ [x])).2
 simp only [List.nil_append, List.length_cons, List.length_nil] at this ⊢
 omega

end Go.Proofs.Ytlohmpgbjgidpad.Q
namespace Go.Proofs.Ytlohmpgbjgidpad.Q
open Go.RowKit Go.Proofs.Ytlohmpgbjgidpad.P Go.Proofs.YtlohmpgbjgidpadW.PrintWords Go.Proofs.YtlohmpgbjgidpadW.PrintLast
/- What the cycles of a permutation are: every number lies in one cycle alone; how many cycles there are of each length. -/
/-- A cycle: a number, what follows it, and so on till it comes back. -/
structure IsCyc (p c : List Int) : Prop where
 nodup : c.Nodup
 inn : ∀ x ∈ c, 0 ≤ x ∧ x < (p.length : Int)
 pos : 0 < c.length
 ex : ∃ a : Int, c = (List.range c.length).map (fun j => powP p j a) ∧ powP p c.length a = a
theorem range_nodup {m : Nat} {f : Nat → Int} (h : ((List.range m).map f).Nodup) {i j : Nat} (hi : i < m) (hj : j < m) (e : f i = f j) : i = j := by
 have H := List.pairwise_iff_getElem.1 h
 rcases Nat.lt_trichotomy i j with l | l | l
 ·exact absurd (by rw [List.getElem_map, List.getElem_map, List.getElem_range, List.getElem_range]; exact e) (H i j (by simpa using hi) (by simpa using hj) l)
 ·exact l
 ·exact absurd (by rw [List.getElem_map, List.getElem_map, List.getElem_range, List.getElem_range]; exact e.symm) (H j i (by simpa using hj) (by simpa using hi) l)
theorem rdOf_set {seen : List Bool} {x y : Int} (h0 : 0 ≤ x) (h1 : x < (seen.length : Int)) (y0 : 0 ≤ y) : rdOf false (seen.set x.toNat true) y = true ↔ y = x ∨ rdOf false seen y = true := by
 obtain ⟨i, rfl⟩ := Int.eq_ofNat_of_zero_le h0
 obtain ⟨j, rfl⟩ := Int.eq_ofNat_of_zero_le y0
 have hi : i < seen.length := by omega
 by_cases e : j = i
 ·subst e
  simp [rdOf, List.getD_eq_getElem?_getD, hi]
 ·have e' : ¬ (j : Int) = (i : Int) := by omega
  simp [rdOf, List.getD_eq_getElem?_getD, List.getElem?_set, e', Ne.symm e]
theorem cycF_spec {p : List Int} (hp : IsPerm p) (T : Int → Prop) {a : Int} (a0 : 0 ≤ a) (a1 : a < (p.length : Int)) (hT : ∀ m, ¬ T (powP p m a)) :
  ∀ (d : Nat) (seen : List Bool) (m : Nat) (cyc : List Int), seen.length = p.length → cyc = (List.range m).map (fun j => powP p j a) → cyc.Nodup →
  (∀ y : Int, 0 ≤ y → y < (p.length : Int) → (rdOf false seen y = true ↔ T y ∨ y ∈ cyc)) → seen.count false < d →
  IsCyc p (cycF p d seen (powP p m a) cyc).2 ∧ (∃ m', (cycF p d seen (powP p m a) cyc).2 = (List.range m').map (fun j => powP p j a)) ∧ (cycF p d seen (powP p m a) cyc).1.length = p.length ∧
  (∀ y : Int, 0 ≤ y → y < (p.length : Int) → (rdOf false (cycF p d seen (powP p m a) cyc).1 y = true ↔ T y ∨ y ∈ (cycF p d seen (powP p m a) cyc).2)) := by
 intro d
 induction d with
 | zero => intro seen m cyc _ _ _ _ h; omega
 | succ d ih =>
  intro seen m cyc hl hc hd hs hf
  have bd := powP_in hp a0 a1 m
  rw [cycF]
  by_cases c : rdOf false seen (powP p m a) = true
  ·rw [if_pos c]
   have hx := ((hs _ bd.1 bd.2).1 c).resolve_left (hT m)
   have hlen : cyc.length = m := by rw [hc]; simp
   obtain ⟨j, hj, e⟩ : ∃ j, j < m ∧ powP p j a = powP p m a := by
    rw [hc] at hx
    obtain ⟨j, hj, e⟩ := List.mem_map.1 hx
    exact ⟨j, List.mem_range.1 hj, e⟩
   have back : powP p (m - j) a = a := by
    have b := powP_in hp a0 a1 (m - j)
    refine powP_inj hp b.1 b.2 a0 a1 j ?_
    rw [← powP_add, show m - j + j = m by omega, e]
   have j0 : j = 0 := by
    apply Classical.byContradiction
    intro hj0
    have z := range_nodup (hc ▸ hd) (i := m - j) (j := 0) (by omega) (by omega) back
    omega
   subst j0
   refine ⟨⟨hd, fun x hx => ?_, by show 0 < cyc.length; omega, a, by show cyc = _; rw [hlen]; exact hc, by show powP p cyc.length a = a; rw [hlen]; simpa using back⟩, ⟨m, hc⟩, hl, hs⟩
   rw [hc] at hx
   obtain ⟨j, hj, rfl⟩ := List.mem_map.1 hx
   exact powP_in hp a0 a1 j
  ·rw [if_neg c]
   have hn : powP p m a ∉ cyc := fun h => c ((hs _ bd.1 bd.2).2 (.inr h))
   have cs := count_seen bd.1 (by rw [hl]; exact bd.2) c
   refine ih (seen.set (powP p m a).toNat true) (m + 1) (cyc ++ [powP p m a]) (by rw [List.length_set, hl]) ?_ ?_ ?_ (by omega)
   ·rw [List.range_succ, List.map_append, ← hc]
    rfl
   ·exact List.nodup_append.2 ⟨hd, by simp, fun x hx y hy e => by rw [List.mem_singleton] at hy; exact hn (hy ▸ e ▸ hx)⟩
   ·intro y y0 y1
    rw [rdOf_set bd.1 (by rw [hl]; exact bd.2) y0, hs y y0 y1, List.mem_append, List.mem_singleton]
    constructor
    ·rintro (h | h | h)
     ·exact .inr (.inr h)
     ·exact .inl h
     ·exact .inr (.inl h)
    ·rintro (h | h | h)
     ·exact .inr (.inl h)
     ·exact .inr (.inr h)
     ·exact .inl h
theorem IsCyc.back {p c : List Int} (hp : IsPerm p) (h : IsCyc p c) {y : Int} (y0 : 0 ≤ y) (y1 : y < (p.length : Int)) (hy : rd p y ∈ c) : y ∈ c := by
 obtain ⟨a, e, ha⟩ := h.ex
 have hm := hy
 rw [e] at hm
 obtain ⟨j, hj, ej⟩ := List.mem_map.1 hm
 have hj := List.mem_range.1 hj
 have mem : ∀ k, k < c.length → powP p k a ∈ c := fun k hk => by rw [e]; exact List.mem_map.2 ⟨k, List.mem_range.2 (by simpa using hk), rfl⟩
 have pos := h.pos
 have za := h.inn a (mem 0 pos)
 cases j with
 | zero =>
  have : powP p (c.length - 1) a = y := by
   have b := powP_in hp za.1 za.2 (c.length - 1)
   refine rd_inj hp b.1 b.2 y0 y1 ?_
   have z : powP p (c.length - 1 + 1) a = rd p y := by
    rw [show c.length - 1 + 1 = c.length by omega, ha]; exact ej
   exact z
  rw [← this]
  exact mem _ (by omega)
 | succ k =>
  have : powP p k a = y := by
   have b := powP_in hp za.1 za.2 k
   exact rd_inj hp b.1 b.2 y0 y1 ej
  rw [← this]
  exact mem _ (by omega)
theorem not_back {p : List Int} (hp : IsPerm p) {T : Int → Prop} (hb : ∀ y, 0 ≤ y → y < (p.length : Int) → T (rd p y) → T y) {a : Int} (a0 : 0 ≤ a) (a1 : a < (p.length : Int)) (ha : ¬ T a) : ∀ m, ¬ T (powP p m a)
 | 0 => ha
 | m + 1 => fun h => not_back hp hb a0 a1 ha m (hb _ (powP_in hp a0 a1 m).1 (powP_in hp a0 a1 m).2 h)
theorem cycO_spec {p : List Int} (hp : IsPerm p) : ∀ (d i : Nat) (seen : List Bool) (out : List (List Int)), i + d = p.length → seen.length = p.length → (∀ c ∈ out, IsCyc p c) → out.flatten.Nodup →
  (∀ y : Int, 0 ≤ y → y < (p.length : Int) → (rdOf false seen y = true ↔ y ∈ out.flatten)) → (∀ j : Nat, j < i → (j : Int) ∈ out.flatten) →
  (∀ c ∈ cycO p d i seen out, IsCyc p c) ∧ (cycO p d i seen out).flatten.Nodup ∧ ∀ j : Nat, j < p.length → (j : Int) ∈ (cycO p d i seen out).flatten := by
 intro d
 induction d with
 | zero => intro i seen out h _ hc hn _ hi; exact ⟨hc, hn, fun j hj => hi j (by omega)⟩
 | succ d ih =>
  intro i seen out h hl hc hn hs hi
  rw [cycO]
  by_cases c : rdOf false seen (i : Int) = true
  ·rw [if_pos c]
   refine ih (i + 1) seen out (by omega) hl hc hn hs fun j hj => ?_
   by_cases e : j = i
   ·subst e
    exact (hs _ (by omega) (by omega)).1 c
   ·exact hi j (by omega)
  ·rw [if_neg c]
   have hb : ∀ y : Int, 0 ≤ y → y < (p.length : Int) → rd p y ∈ out.flatten → y ∈ out.flatten := fun y y0 y1 hy => by
    obtain ⟨z, hz, hy⟩ := List.mem_flatten.1 hy
    exact List.mem_flatten.2 ⟨z, hz, (hc z hz).back hp y0 y1 hy⟩
   have hna : ¬ (i : Int) ∈ out.flatten := fun h => c ((hs _ (by omega) (by omega)).2 h)
   have hT := not_back hp hb (a := (i : Int)) (by omega) (by omega) hna
   have cnt : seen.count false ≤ p.length := by rw [← hl]; exact List.count_le_length
   obtain ⟨k1, ⟨m', k2⟩, k3, k4⟩ := cycF_spec hp (· ∈ out.flatten) (a := (i : Int)) (by omega) (by omega) hT (p.length + 1) seen 0 [] hl rfl (by simp) (fun y y0 y1 => by rw [hs y y0 y1]; simp) (by omega)
   have k1 : IsCyc p (cycF p (p.length + 1) seen (i : Int) []).2 := k1
   have k2 : (cycF p (p.length + 1) seen (i : Int) []).2 = (List.range m').map (fun j => powP p j (i : Int)) := k2
   have k3 : (cycF p (p.length + 1) seen (i : Int) []).1.length = p.length := k3
   have k4 : ∀ y : Int, 0 ≤ y → y < (p.length : Int) → (rdOf false (cycF p (p.length + 1) seen (i : Int) []).1 y = true ↔ y ∈ out.flatten ∨ y ∈ (cycF p (p.length + 1) seen (i : Int) []).2) := k4
   generalize cycF p (p.length + 1) seen (i : Int) [] = F at *
   have fl : (out ++ [F.2]).flatten = out.flatten ++ F.2 := by simp
   have ii : (i : Int) ∈ F.2 := by
    rw [k2]
    have : 0 < m' := by have := k1.pos; rw [k2] at this; simpa using this
    exact List.mem_map.2 ⟨0, List.mem_range.2 this, rfl⟩
   refine ih (i + 1) F.1 (out ++ [F.2]) (by omega) k3 ?_ ?_ ?_ ?_
   ·intro z hz
    rcases List.mem_append.1 hz with hz | hz
    ·exact hc z hz
    ·rw [List.mem_singleton.1 hz]; exact k1
   ·rw [fl]
    refine List.nodup_append.2 ⟨hn, k1.nodup, fun x hx y hy e => ?_⟩
    subst e
    rw [k2] at hy
    obtain ⟨j, _, rfl⟩ := List.mem_map.1 hy
    exact hT j hx
   ·intro y y0 y1
    rw [fl, List.mem_append]
    exact k4 y y0 y1
   ·intro j hj
    rw [fl, List.mem_append]
    by_cases e : j = i
    ·subst e; exact .inr ii
    ·exact .inl (hi j (by omega))
theorem cycL_spec {p : List Int} (hp : IsPerm p) : (∀ c ∈ cycL p, IsCyc p c) ∧ (cycL p).flatten.Nodup ∧ ∀ j : Nat, j < p.length → (j : Int) ∈ (cycL p).flatten := by
 refine cycO_spec hp p.length 0 _ [] (by omega) (by simp) (by simp) (by simp) (fun y y0 y1 => ?_) (fun j hj => by omega)
 obtain ⟨j, rfl⟩ := Int.eq_ofNat_of_zero_le y0
 have : j < p.length := by omega
 simp [rdOf, List.getD_eq_getElem?_getD, this]
def ints (n : Nat) : List Int := (List.range n).map fun (j : Nat) => (j : Int)
theorem mem_ints {n : Nat} {x : Int} : x ∈ ints n ↔ 0 ≤ x ∧ x < (n : Int) := by
 constructor
 ·intro h
  obtain ⟨j, hj, rfl⟩ := List.mem_map.1 h
  have := List.mem_range.1 hj
  exact ⟨by omega, by omega⟩
 ·rintro ⟨h0, h1⟩
  exact List.mem_map.2 ⟨x.toNat, List.mem_range.2 (by omega), by omega⟩
theorem ints_nodup (n : Nat) : (ints n).Nodup := by
 apply nodup_of_inj
 intro i j hi hj e
 simp only [ints, List.getElem_map, List.getElem_range] at e
 omega
theorem perm_of_mem {l m : List Int} (hl : l.Nodup) (hm : m.Nodup) (h : ∀ x, x ∈ l ↔ x ∈ m) : l.Perm m := by
 rw [List.perm_iff_count]
 intro x
 rw [hl.count, hm.count]
 by_cases c : x ∈ l
 ·rw [if_pos c, if_pos ((h x).1 c)]
 ·rw [if_neg c, if_neg (fun z => c ((h x).2 z))]
theorem flat_ints {p : List Int} (hp : IsPerm p) : (cycL p).flatten.Perm (ints p.length) := by
 obtain ⟨h1, h2, h3⟩ := cycL_spec hp
 refine perm_of_mem h2 (ints_nodup _) fun x => ⟨fun hx => ?_, fun hx => ?_⟩
 ·obtain ⟨c, hc, hx⟩ := List.mem_flatten.1 hx
  exact mem_ints.2 ((h1 c hc).inn x hx)
 ·obtain ⟨h0, h1⟩ := mem_ints.1 hx
  have := h3 x.toNat (by omega)
  rwa [Int.toNat_of_nonneg h0] at this
/-- The lengths of the cycles. -/
def cycLen (p : List Int) : List Nat := (cycL p).map List.length
theorem cycLen_sum {p : List Int} (hp : IsPerm p) : (cycLen p).sum = p.length := by
 have := (flat_ints hp).length_eq
 rw [List.length_flatten] at this
 simpa [ints, cycLen] using this

end Go.Proofs.Ytlohmpgbjgidpad.Q
namespace Go.Proofs.Ytlohmpgbjgidpad.Q
open Go.RowKit Go.Proofs.Ytlohmpgbjgidpad.P Go.Proofs.YtlohmpgbjgidpadW.PrintWords Go.Proofs.YtlohmpgbjgidpadW.PrintLast
/- How long the cycles are, taken together. -/
theorem cycB_sum (p : List Int) : ((cycB p).map List.length).sum ≤ 24 ∧ (cycB p).length ≤ 24 ∧ ∀ c ∈ cycB p, c.length ≤ 24 := by
 unfold cycB
 by_cases h : permB p = true
 ·rw [if_pos h]
  have hp := (permB_iff p).1 h
  have s : ((cycL p).map List.length).sum = p.length := cycLen_sum hp.2
  have pos := fun c hc => ((cycL_spec hp.2).1 c hc).pos
  have key : ∀ (l : List (List Int)), (∀ c ∈ l, 0 < c.length) → l.length ≤ (l.map List.length).sum ∧ ∀ c ∈ l, c.length ≤ (l.map List.length).sum := fun l => by
   induction l with
   | nil => intro _; simp
   | cons c l ih =>
    intro hc
    have a := hc c (by simp)
    have b := ih fun c hh => hc c (by simp [hh])
    simp only [List.length_cons, List.map_cons, List.sum_cons]
    refine ⟨by omega, fun d hd => ?_⟩
    rcases List.mem_cons.1 hd with rfl | hd
    ·omega
    ·have := b.2 d hd; omega
  have k := key _ pos
  refine ⟨by omega, by omega, fun c hc => ?_⟩
  have := k.2 c hc
  omega
 ·rw [if_neg h]
  simp

end Go.Proofs.Ytlohmpgbjgidpad.Q
namespace Go.Proofs.Ytlohmpgbjgidpad.Q
open Go.RowKit Go.Proofs.Ytlohmpgbjgidpad.P Go.Proofs.YtlohmpgbjgidpadW.PrintWords Go.Proofs.YtlohmpgbjgidpadW.PrintLast
/- The cycles of the round. -/
def cornersB (r u : List Int) : List (List Int) := if transB r u = true then cycL (aroundL r u) else []
theorem IsSurf.permA {r u : List Int} (h : IsSurf r u) : permB (aroundL r u) = true := (permB_iff _).2 ⟨by rw [aroundL_length]; exact h.le, aroundL_perm h⟩

end Go.Proofs.Ytlohmpgbjgidpad.Q
namespace Go.Proofs.Ytlohmpgbjgidpad.Q
open Go.RowKit Go.Proofs.Ytlohmpgbjgidpad.P Go.Proofs.YtlohmpgbjgidpadW.PrintWords Go.Proofs.YtlohmpgbjgidpadW.PrintLast
/- A list that is filled place by place along a permutation. -/
def fillAt (q : List Int) (g : Nat → Int) (i : Nat) : List Int := (List.range q.length).map fun (j : Nat) => if posOf q (j : Int) < i then g (posOf q (j : Int)) else 0
theorem fillAt_length (q : List Int) (g : Nat → Int) (i : Nat) : (fillAt q g i).length = q.length := by simp [fillAt]
theorem fillAt_get (q : List Int) (g : Nat → Int) (i : Nat) {j : Nat} (h : j < q.length) : (fillAt q g i)[j]'(by rw [fillAt_length]; exact h) = if posOf q (j : Int) < i then g (posOf q (j : Int)) else 0 := by simp [fillAt]
theorem fillAt_zero (q : List Int) (g : Nat → Int) : fillAt q g 0 = List.replicate q.length 0 := by
 apply List.ext_getElem (by rw [fillAt_length, List.length_replicate])
 intro j h1 h2
 rw [fillAt_length] at h1
 rw [fillAt_get q g 0 h1]
 simp
theorem fillAt_set {q : List Int} (hq : IsPerm q) (g : Nat → Int) {i : Nat} (hi : i < q.length) : (fillAt q g i).set (q[i]).toNat (g i) = fillAt q g (i + 1) := by
 apply List.ext_getElem (by rw [List.length_set, fillAt_length, fillAt_length])
 intro j h1 h2
 rw [fillAt_length] at h2
 rw [fillAt_get q g (i + 1) h2, List.getElem_set]
 have m := hq.mem (j := (j : Int)) (by omega) (by omega)
 have a := posOf_get m
 have l0 := hq.get_lo hi
 split
 ·rename_i e
  have e2 : (j : Int) = q[i] := by omega
  rw [e2, hq.posOf_at hi]
  simp
 ·rename_i e
  rw [fillAt_get q g i h2]
  have hne : posOf q (j : Int) ≠ i := by
   intro e2
   simp only [e2] at a
   omega
  by_cases c : posOf q (j : Int) < i
  ·rw [if_pos c, if_pos (by omega)]
  ·rw [if_neg c, if_neg (by omega)]
theorem fill_inv {p : List Int} (hp : IsPerm p) : fillAt p (fun i => (i : Int)) p.length = invL p := by
 apply List.ext_getElem (by rw [fillAt_length, invL_length])
 intro j h1 h2
 rw [invL_length] at h2
 rw [fillAt_get p _ _ h2, invL_get p h2]
 exact if_pos (posOf_lt (hp.mem (by omega) (by omega)))

end Go.Proofs.Ytlohmpgbjgidpad.Q
namespace Go.Proofs.Ytlohmpgbjgidpad.Q
open Go.RowKit Go.Proofs.Ytlohmpgbjgidpad.P Go.Proofs.YtlohmpgbjgidpadW.PrintWords Go.Proofs.YtlohmpgbjgidpadW.PrintLast
/- The two InversePerm functions. -/
theorem spec_inv2_loop (p : List Int) (hp : IsPerm p) (hn : p.length ≤ 24) : ∀ (d i : Nat), i + d = p.length →
  Ev (fun k => spec_l02Inverse.l0 k (fillAt p (fun i => (i : Int)) i) p (p.length : Int) i) (invL p) := by
 intro d
 induction d with
 | zero =>
  intro i h
  refine Ev.step (fun k => by rw [spec_l02Inverse.l0]) (Ev.neg (by omega) ?_)
  rw [show i = p.length by omega, fill_inv hp]
  exact Ev.now _
 | succ d ih =>
  intro i h
  have a := hp.get_lo (i := i) (by omega)
  have b := hp.get_hi (i := i) (by omega)
  refine Ev.step (fun k => by rw [spec_l02Inverse.l0]) ?_
  rw [rdg (by omega), w64n (by omega)]
  rw [fillAt_length, fillAt_set hp (fun i => (i : Int)) (by omega)]
  refine Ev.pos (by omega) (Ev.pos (by omega) (Ev.pos (by omega) (Ev.pos (by omega) (Ev.pos (by omega) ?_))))
  exact ih (i + 1) (by omega)
theorem spec_l02Inverse_ev (p : List Int) (hp : IsPerm p) (hn : p.length ≤ 24) : Ev (fun k => spec_l02Inverse.f k p) (invL p) := by
 refine Ev.same (fun k => by rw [spec_l02Inverse.f]) (Ev.pos (by omega) (Ev.pos (by omega) ?_))
 have := spec_inv2_loop p hp hn p.length 0 (by omega)
 rw [fillAt_zero] at this
 simpa using this
/-- What InversePerm returns. -/
def invB (p : List Int) : List Int := if permB p = true then invL p else []
theorem impl_inv2_loop (p : List Int) (hp : IsPerm p) (hn : p.length ≤ 24) : ∀ (d i : Nat), i + d = p.length →
  Ev (fun k => impl_InversePerm.l0 k (fillAt p (fun i => (i : Int)) i) p (p.length : Int) i) (invL p) := by
 intro d
 induction d with
 | zero =>
  intro i h
  refine Ev.step (fun k => by rw [impl_InversePerm.l0]) (Ev.neg (by omega) ?_)
  rw [show i = p.length by omega, fill_inv hp]
  exact Ev.now _
 | succ d ih =>
  intro i h
  have a := hp.get_lo (i := i) (by omega)
  have b := hp.get_hi (i := i) (by omega)
  refine Ev.step (fun k => by rw [impl_InversePerm.l0]) ?_
  rw [rdg (by omega), w64n (by omega)]
  rw [fillAt_length, fillAt_set hp (fun i => (i : Int)) (by omega)]
  refine Ev.pos (by omega) (Ev.pos (by omega) (Ev.pos (by omega) (Ev.pos (by omega) (Ev.pos (by omega) ?_))))
  exact ih (i + 1) (by omega)
theorem impl_InversePerm_ev (p : List Int) : Ev (fun k => impl_InversePerm.f k p) (invB p) := by
 refine Ev.same (fun k => by rw [impl_InversePerm.f]) (Ev.plain (impl_PermOk_some p) ?_)
 unfold invB
 by_cases h : permB p = true
 ·have h' := (permB_iff p).1 h
  rw [if_pos h]
  refine Ev.pos h (Ev.pos (by omega) (Ev.pos (by omega) ?_))
  have := impl_inv2_loop p h'.2 h'.1 p.length 0 (by omega)
  rw [fillAt_zero] at this
  simpa using this
 ·rw [if_neg h]
  exact Ev.neg h (Ev.now _)

end Go.Proofs.Ytlohmpgbjgidpad.Q
namespace Go.Proofs.Ytlohmpgbjgidpad.Q
open Go.RowKit Go.Proofs.Ytlohmpgbjgidpad.P Go.Proofs.YtlohmpgbjgidpadW.PrintWords Go.Proofs.YtlohmpgbjgidpadW.PrintLast
/- The two ThenPerm functions. -/
theorem spec_then_loop (p q : List Int) (h0 : ∀ (i : Nat) (hi : i < p.length), 0 ≤ p[i] ∧ p[i] < (q.length : Int)) (hn : p.length ≤ 24) : ∀ (d i : Nat), i + d = p.length →
  Ev (fun k => spec_l02Then.l0 k q ((thenL p q).take i) p (p.length : Int) i) (thenL p q) := by
 intro d
 induction d with
 | zero =>
  intro i h
  refine Ev.step (fun k => by rw [spec_l02Then.l0]) (Ev.neg (by omega) ?_)
  rw [List.take_of_length_le (by rw [thenL_length]; omega)]
  exact Ev.now _
 | succ d ih =>
  intro i h
  have a := h0 i (by omega)
  refine Ev.step (fun k => by rw [spec_l02Then.l0]) ?_
  rw [rdg (by omega), w64n (by omega)]
  refine Ev.pos (by omega) (Ev.pos (by omega) (Ev.pos (by omega) (Ev.pos (by omega) (Ev.pos (by omega) (Ev.pos (by rw [List.length_take]; omega) ?_)))))
  rw [← thenL_get p q (by omega), ← List.take_succ_eq_append_getElem (by rw [thenL_length]; omega)]
  exact ih (i + 1) (by omega)
theorem spec_l02Then_ev (p q : List Int) (h0 : ∀ (i : Nat) (hi : i < p.length), 0 ≤ p[i] ∧ p[i] < (q.length : Int)) (hn : p.length ≤ 24) : Ev (fun k => spec_l02Then.f k p q) (thenL p q) :=
 Ev.same (fun k => by rw [spec_l02Then.f]; rfl) (spec_then_loop p q h0 hn p.length 0 (by omega))
/-- What ThenPerm returns. -/
def thenB (p q : List Int) : List Int := if permB p = true ∧ permB q = true ∧ p.length = q.length then thenL p q else []
theorem then_in {p q : List Int} (h : permB p = true) (hl : p.length = q.length) : ∀ (i : Nat) (hi : i < p.length), 0 ≤ p[i] ∧ p[i] < (q.length : Int) := fun i hi => by
 have := ((permB_iff p).1 h).2
 exact ⟨this.get_lo hi, by have := this.get_hi hi; omega⟩
theorem impl_then_loop (p q : List Int) (h0 : ∀ (i : Nat) (hi : i < p.length), 0 ≤ p[i] ∧ p[i] < (q.length : Int)) (hn : p.length ≤ 24) : ∀ (d i : Nat) (ys : List Int), i + d = p.length → ys.length = p.length → ys.take i = (thenL p q).take i →
  Ev (fun k => impl_ThenPerm.l0 k q ys p (p.length : Int) i) (thenL p q) := by
 intro d
 induction d with
 | zero =>
  intro i ys h hl hy
  refine Ev.step (fun k => by rw [impl_ThenPerm.l0]) (Ev.neg (by omega) ?_)
  rw [List.take_of_length_le (by omega), List.take_of_length_le (by rw [thenL_length]; omega)] at hy
  rw [hy]
  exact Ev.now _
 | succ d ih =>
  intro i ys h hl hy
  have a := h0 i (by omega)
  refine Ev.step (fun k => by rw [impl_ThenPerm.l0]) ?_
  rw [rdg (by omega), w64n (by omega)]
  refine Ev.pos (by omega) (Ev.pos (by omega) (Ev.pos (by omega) (Ev.pos (by omega) (Ev.pos (by omega) (Ev.pos (by omega) ?_)))))
  rw [Int.toNat_natCast]
  refine ih (i + 1) _ (by omega) (by rw [List.length_set, hl]) ?_
  rw [List.take_succ_eq_append_getElem (by simp; omega), List.getElem_set_self, List.take_set_of_le (by omega), hy, List.take_succ_eq_append_getElem (l := thenL p q) (by rw [thenL_length]; omega), thenL_get p q (by omega)]
theorem impl_ThenPerm_ev (p q : List Int) : Ev (fun k => impl_ThenPerm.f k p q) (thenB p q) := by
 have no : Ev (fun k => impl_ThenPerm.j0 k p q true) [] := Ev.step (fun k => by rw [impl_ThenPerm.j0]) (Ev.pos rfl (Ev.now _))
 refine Ev.same (fun k => by rw [impl_ThenPerm.f]) (Ev.plain (impl_PermOk_some p) ?_)
 unfold thenB
 by_cases h : permB p = true
 ·refine Ev.pos h (Ev.plain (impl_PermOk_some q) ?_)
  by_cases h' : permB q = true
  ·refine Ev.pos h' ?_
   by_cases e : p.length = q.length
   ·rw [if_pos ⟨h, h', e⟩, show ((p.length : Int) != (q.length : Int)) = false by simp [e]]
    have hp := (permB_iff p).1 h
    refine Ev.step (fun k => by rw [impl_ThenPerm.j0]) (Ev.neg (by simp) (Ev.pos (by omega) (Ev.pos (by omega) ?_)))
    exact impl_then_loop p q (then_in h e) hp.1 p.length 0 _ (by omega) (by simp) (by simp)
   ·rw [if_neg (fun z => e z.2.2), show ((p.length : Int) != (q.length : Int)) = true by simp; omega]
    exact no
  ·rw [if_neg (fun z => h' z.2.1)]
   exact Ev.neg h' no
 ·rw [if_neg (fun z => h z.1)]
  exact Ev.neg h no

end Go.Proofs.Ytlohmpgbjgidpad.Q
namespace Go.Proofs.Ytlohmpgbjgidpad.Q
open Go.RowKit Go.Proofs.Ytlohmpgbjgidpad.P Go.Proofs.YtlohmpgbjgidpadW.PrintWords Go.Proofs.YtlohmpgbjgidpadW.PrintLast
/- The reference's round. -/
theorem spec_l04Around_ev {r u : List Int} (h : IsSurf r u) : Ev (fun k => spec_l04Around.f k r u) (aroundL r u) := by
 have e1 : (invL r).length = (invL u).length := by rw [invL_length, invL_length, h.same]
 refine Ev.same (fun k => by rw [spec_l04Around.f]) (Ev.bind (spec_l02Then_ev r u (perm_in h.right h.same) h.le) ?_)
 refine Ev.bind (spec_l02Inverse_ev r h.right h.le) (Ev.bind (spec_l02Inverse_ev u h.up h.leU) ?_)
 refine Ev.bind (spec_l02Then_ev (invL r) (invL u) (perm_in h.right.inv e1) (by rw [invL_length]; exact h.le)) ?_
 exact Ev.bind (spec_l02Then_ev (thenL r u) (thenL (invL r) (invL u)) (perm_in (h.right.then h.up h.same) (by rw [thenL_length, thenL_length, invL_length])) (by rw [thenL_length]; exact h.le)) (Ev.now _)

end Go.Proofs.Ytlohmpgbjgidpad.Q
namespace Go.Proofs.Ytlohmpgbjgidpad.Q
open Go.RowKit Go.Proofs.Ytlohmpgbjgidpad.P Go.Proofs.YtlohmpgbjgidpadW.PrintWords Go.Proofs.YtlohmpgbjgidpadW.PrintLast
/- The reference's cycles. -/
theorem spec_cyc_inner (p : List Int) (hp : IsPerm p) (hn : p.length ≤ 24) (i : Nat) (hi : i < p.length) (out : List (List Int)) (ho : out.length ≤ 24) (r : List (List Int)) : ∀ (d : Nat) (seen : List Bool) (x : Int) (cyc : List Int), seen.length = p.length → 0 ≤ x → x < (p.length : Int) → seen.count false < d → cyc.length + d ≤ 60 →
  (0 < (cycF p d seen x cyc).2.length) → Ev (fun k => spec_CyclesOf.l0 k p (out ++ [(cycF p d seen x cyc).2]) (cycF p d seen x cyc).1 (p.length : Int) ((i + 1 : Nat) : Int)) r →
  Ev (fun k => spec_CyclesOf.l1 k p out seen cyc x (p.length : Int) i) r := by
 intro d
 induction d with
 | zero => intro seen x cyc hl h0 h1 hc; omega
 | succ d ih =>
  intro seen x cyc hl h0 h1 hc hd hpos next
  refine Ev.step (fun k => by rw [spec_CyclesOf.l1]) (Ev.pos h0 (Ev.pos (by omega) ?_))
  rw [cycF] at next hpos
  by_cases c : rdOf false seen x = true
  ·rw [if_pos c] at next hpos
   refine Ev.pos c ?_
   rw [w64n (by omega)]
   exact Ev.pos (by have z_ : 0 < cyc.length := hpos; omega) (Ev.pos (by omega) next)
  ·rw [if_neg c] at next hpos
   have b := rd_perm hp h0 h1
   have cs := count_seen h0 (by omega) c
   refine Ev.neg c (Ev.pos (by omega) (Ev.pos (by omega) ?_))
   exact ih _ _ _ (by rw [List.length_set, hl]) b.1 b.2 (by omega) (by rw [List.length_append, List.length_cons, List.length_nil]; omega) hpos next
theorem spec_cyc_outer (p : List Int) (hp : IsPerm p) (hn : p.length ≤ 24) : ∀ (d i : Nat) (seen : List Bool) (out : List (List Int)), i + d = p.length → seen.length = p.length → out.length ≤ i → Ev (fun k => spec_CyclesOf.l0 k p out seen (p.length : Int) i) (cycO p d i seen out) := by
 intro d
 induction d with
 | zero =>
  intro i seen out h hl ho
  exact Ev.step (fun k => by rw [spec_CyclesOf.l0]) (Ev.neg (by omega) (Ev.now out))
 | succ d ih =>
  intro i seen out h hl ho
  rw [cycO]
  refine Ev.step (fun k => by rw [spec_CyclesOf.l0]) (Ev.pos (by omega) ?_)
  have cnt : seen.count false ≤ p.length := by rw [← hl]; exact List.count_le_length
  have inner := fun r hh => spec_cyc_inner p hp hn i (by omega) out (by omega) r (p.length + 1) seen (i : Int) [] hl (by omega) (by omega) (by omega) (by simp; omega) hh
  by_cases c : rdOf false seen (i : Int) = true
  ·rw [if_pos c]
   have n := ih (i + 1) seen out (by omega) hl (by omega)
   refine Ev.step (fun k => by rw [spec_CyclesOf.l1]) (Ev.pos (by omega) (Ev.pos (by omega) (Ev.pos c (Ev.neg (by simp) ?_))))
   rw [w64n (by omega)]
   exact n
  ·rw [if_neg c]
   have n := ih (i + 1) (cycF p (p.length + 1) seen (i : Int) []).1 (out ++ [(cycF p (p.length + 1) seen (i : Int) []).2]) (by omega) (by rw [(cycF_seen _ _ _ _ _).1, hl]) (by rw [List.length_append, List.length_cons, List.length_nil]; omega)
   exact inner _ (cycF_pos p _ seen _ c) n
theorem spec_CyclesOf_ev (p : List Int) (hl : p.length < 9223372036854775807) : Ev (fun k => spec_CyclesOf.f k p) (cycB p) := by
 refine Ev.same (fun k => by rw [spec_CyclesOf.f]) (Ev.bind (spec_PermOk_ev p hl) ?_)
 unfold cycB
 by_cases h : permB p = true
 ·have h' := (permB_iff p).1 h
  have := h'.1
  rw [if_pos h]
  refine Ev.pos h (Ev.pos (by omega) (Ev.pos (by omega) ?_))
  exact spec_cyc_outer p h'.2 h'.1 p.length 0 _ [] (by omega) (by simp) (by simp)
 ·rw [if_neg h]
  exact Ev.neg h (Ev.now _)

end Go.Proofs.Ytlohmpgbjgidpad.Q
namespace Go.Proofs.Ytlohmpgbjgidpad.Q
open Go.RowKit Go.Proofs.Ytlohmpgbjgidpad.P Go.Proofs.YtlohmpgbjgidpadW.PrintWords Go.Proofs.YtlohmpgbjgidpadW.PrintLast
/- The reference's corners. -/
theorem spec_CornersOf_ev (r u : List Int) (hr : r.length < 9223372036854775807) (hu : u.length < 9223372036854775807) : Ev (fun k => spec_CornersOf.f k r u) (cornersB r u) := by
 refine Ev.same (fun k => by rw [spec_CornersOf.f]) (Ev.bind (spec_SurfaceOk_ev r u hr hu) ?_)
 unfold cornersB
 by_cases h : transB r u = true
 ·rw [if_pos h]
  have s := (transB_iff r u).1 h
  refine Ev.pos h (Ev.bind (spec_l04Around_ev s) ?_)
  refine Ev.bind (spec_CyclesOf_ev _ (by have := s.le; rw [aroundL_length]; omega)) ?_
  rw [cycB, if_pos s.permA]
  exact Ev.now _
 ·rw [if_neg h]
  exact Ev.neg h (Ev.now _)

end Go.Proofs.Ytlohmpgbjgidpad.Q
namespace Go.Proofs.Ytlohmpgbjgidpad.Q
open Go.RowKit Go.Proofs.Ytlohmpgbjgidpad.P Go.Proofs.YtlohmpgbjgidpadW.PrintWords Go.Proofs.YtlohmpgbjgidpadW.PrintLast
/- The program's round. -/
theorem impl_AroundOf_ev (r u : List Int) : Ev (fun k => impl_AroundOf.f k r u) (aroundB r u) := by
 refine Ev.same (fun k => by rw [impl_AroundOf.f]) (Ev.bind (impl_SurfaceOk_ev r u) ?_)
 unfold aroundB
 by_cases h : transB r u = true
 ·rw [if_pos h]
  have s := (transB_iff r u).1 h
  have hle := s.le
  have hleU := s.leU
  have p1 : permB (thenL r u) = true := (permB_iff _).2 ⟨by rw [thenL_length]; exact s.le, s.right.then s.up s.same⟩
  have pu : permB (invL u) = true := (permB_iff _).2 ⟨by rw [invL_length]; exact s.leU, s.up.inv⟩
  have e1 : (invL r).length = (invL u).length := by rw [invL_length, invL_length, s.same]
  have p2 : permB (thenL (invL r) (invL u)) = true := (permB_iff _).2 ⟨by rw [thenL_length, invL_length]; exact s.le, s.right.inv.then s.up.inv e1⟩
  refine Ev.pos h (Ev.bind (impl_ThenPerm_ev r u) ?_)
  rw [thenB, if_pos ⟨s.permR, s.permU, s.same⟩]
  refine Ev.bind (impl_InversePerm_ev r) ?_
  rw [invB, if_pos s.permR]
  refine Ev.bind (impl_InversePerm_ev u) ?_
  rw [invB, if_pos s.permU]
  refine Ev.bind (impl_ThenPerm_ev (invL r) (invL u)) ?_
  rw [thenB, if_pos ⟨s.permI, pu, e1⟩]
  refine Ev.bind (impl_ThenPerm_ev (thenL r u) (thenL (invL r) (invL u))) ?_
  rw [thenB, if_pos ⟨p1, p2, by rw [thenL_length, thenL_length, invL_length]⟩]
  exact Ev.now _
 ·rw [if_neg h]
  exact Ev.neg h (Ev.now _)

end Go.Proofs.Ytlohmpgbjgidpad.Q
namespace Go.Proofs.Ytlohmpgbjgidpad.Q
open Go.RowKit Go.Proofs.Ytlohmpgbjgidpad.P Go.Proofs.YtlohmpgbjgidpadW.PrintWords Go.Proofs.YtlohmpgbjgidpadW.PrintLast
/- The program's cycles. -/
theorem impl_cyc_inner (p : List Int) (hp : IsPerm p) (hn : p.length ≤ 24) (i : Nat) (hi : i < p.length) (out : List (List Int)) (ho : out.length ≤ 24) (r : List (List Int)) : ∀ (d : Nat) (seen : List Bool) (x : Int) (cyc : List Int), seen.length = p.length → 0 ≤ x → x < (p.length : Int) → seen.count false < d → cyc.length + d ≤ 60 →
  (0 < (cycF p d seen x cyc).2.length) → Ev (fun k => impl_CyclesOf.l0 k p (cycF p d seen x cyc).1 (out ++ [(cycF p d seen x cyc).2]) (p.length : Int) ((i + 1 : Nat) : Int)) r →
  Ev (fun k => impl_CyclesOf.l1 k p seen out cyc x (p.length : Int) i) r := by
 intro d
 induction d with
 | zero => intro seen x cyc hl h0 h1 hc; omega
 | succ d ih =>
  intro seen x cyc hl h0 h1 hc hd hpos next
  refine Ev.step (fun k => by rw [impl_CyclesOf.l1]) (Ev.pos h0 (Ev.pos (by omega) ?_))
  rw [cycF] at next hpos
  by_cases c : rdOf false seen x = true
  ·rw [if_pos c] at next hpos
   refine Ev.pos c ?_
   rw [w64n (by omega)]
   exact Ev.pos (by omega) next
  ·rw [if_neg c] at next hpos
   have b := rd_perm hp h0 h1
   have cs := count_seen h0 (by omega) c
   refine Ev.neg c (Ev.pos (by omega) (Ev.pos (by omega) ?_))
   exact ih _ _ _ (by rw [List.length_set, hl]) b.1 b.2 (by omega) (by rw [List.length_append, List.length_cons, List.length_nil]; omega) hpos next
theorem impl_cyc_outer (p : List Int) (hp : IsPerm p) (hn : p.length ≤ 24) : ∀ (d i : Nat) (seen : List Bool) (out : List (List Int)), i + d = p.length → seen.length = p.length → out.length ≤ i → Ev (fun k => impl_CyclesOf.l0 k p seen out (p.length : Int) i) (cycO p d i seen out) := by
 intro d
 induction d with
 | zero =>
  intro i seen out h hl ho
  exact Ev.step (fun k => by rw [impl_CyclesOf.l0]) (Ev.neg (by omega) (Ev.now out))
 | succ d ih =>
  intro i seen out h hl ho
  rw [cycO]
  refine Ev.step (fun k => by rw [impl_CyclesOf.l0]) (Ev.pos (by omega) ?_)
  have cnt : seen.count false ≤ p.length := by rw [← hl]; exact List.count_le_length
  have inner := fun r hh => impl_cyc_inner p hp hn i (by omega) out (by omega) r (p.length + 1) seen (i : Int) [] hl (by omega) (by omega) (by omega) (by simp; omega) hh
  by_cases c : rdOf false seen (i : Int) = true
  ·rw [if_pos c]
   have n := ih (i + 1) seen out (by omega) hl (by omega)
   refine Ev.pos (by omega) (Ev.pos (by omega) (Ev.pos c ?_))
   rw [w64n (by omega)]
   exact n
  ·rw [if_neg c]
   have n := ih (i + 1) (cycF p (p.length + 1) seen (i : Int) []).1 (out ++ [(cycF p (p.length + 1) seen (i : Int) []).2]) (by omega) (by rw [(cycF_seen _ _ _ _ _).1, hl]) (by rw [List.length_append, List.length_cons, List.length_nil]; omega)
   exact Ev.pos (by omega) (Ev.pos (by omega) (Ev.neg c (inner _ (cycF_pos p _ seen _ c) n)))
theorem impl_CyclesOf_ev (p : List Int) : Ev (fun k => impl_CyclesOf.f k p) (cycB p) := by
 refine Ev.same (fun k => by rw [impl_CyclesOf.f]) (Ev.plain (impl_PermOk_some p) ?_)
 unfold cycB
 by_cases h : permB p = true
 ·have h' := (permB_iff p).1 h
  have := h'.1
  rw [if_pos h]
  refine Ev.pos h (Ev.pos (by omega) (Ev.pos (by omega) ?_))
  exact impl_cyc_outer p h'.2 h'.1 p.length 0 _ [] (by omega) (by simp) (by simp)
 ·rw [if_neg h]
  exact Ev.neg h (Ev.now _)

end Go.Proofs.Ytlohmpgbjgidpad.Q
namespace Go.Proofs.Ytlohmpgbjgidpad.Q
open Go.RowKit Go.Proofs.Ytlohmpgbjgidpad.P Go.Proofs.YtlohmpgbjgidpadW.PrintWords Go.Proofs.YtlohmpgbjgidpadW.PrintLast
/- The program's corners. -/
theorem impl_CornersOf_ev (r u : List Int) : Ev (fun k => impl_CornersOf.f k r u) (cornersB r u) := by
 refine Ev.same (fun k => by rw [impl_CornersOf.f]) (Ev.bind (impl_SurfaceOk_ev r u) ?_)
 unfold cornersB
 by_cases h : transB r u = true
 ·rw [if_pos h]
  have s := (transB_iff r u).1 h
  refine Ev.pos h (Ev.bind (impl_AroundOf_ev r u) ?_)
  rw [aroundB, if_pos h]
  refine Ev.bind (impl_CyclesOf_ev _) ?_
  rw [cycB, if_pos s.permA]
  exact Ev.now _
 ·rw [if_neg h]
  exact Ev.neg h (Ev.now _)

end Go.Proofs.Ytlohmpgbjgidpad.Q
namespace Go.Proofs.Ytlohmpgbjgidpad.Q
open Go.RowKit Go.Proofs.Ytlohmpgbjgidpad.P Go.Proofs.YtlohmpgbjgidpadW.PrintWords Go.Proofs.YtlohmpgbjgidpadW.PrintLast
/- Numbers in descending order: insertion, and that the order is one. -/
def Desc (l : List Int) : Prop := l.Pairwise (fun a b => b ≤ a)
theorem desc_unique : ∀ {l m : List Int}, l.Perm m → Desc l → Desc m → l = m
 | [], m, h, _, _ => by rw [List.nil_perm.1 h]
 | x :: l, [], h, _, _ => by simp at h
 | x :: l, y :: m, h, hl, hm => by
  have hl := List.pairwise_cons.1 hl
  have hm := List.pairwise_cons.1 hm
  have e : x = y := by
   have a : x ∈ y :: m := h.mem_iff.1 (by simp)
   have b : y ∈ x :: l := h.mem_iff.2 (by simp)
   rcases List.mem_cons.1 a with e | a
   ·exact e
   ·rcases List.mem_cons.1 b with e | b
    ·exact e.symm
    ·have := hl.1 _ b
     have := hm.1 _ a
     omega
  subst e
  rw [desc_unique h.cons_inv hl.2 hm.2]
/-- One number moved down to its place. -/
def insF : Nat → List Int → Int → List Int
 | 0, out, x => out.set 0 x
 | k + 1, out, x => if rd out (k : Int) < x then insF k (out.set (k + 1) (rd out (k : Int))) x else out.set (k + 1) x
theorem insF_spec (x : Int) : ∀ (k : Nat) (A B : List Int) (g : Int), A.length = k → Desc (A ++ B) → (∀ b ∈ B, b < x) → (insF k (A ++ g :: B) x).Perm (x :: (A ++ B)) ∧ Desc (insF k (A ++ g :: B) x)
 | 0, A, B, g, h, hs, hb => by
  obtain rfl := List.length_eq_zero_iff.1 h
  refine ⟨List.Perm.refl _, List.pairwise_cons.2 ⟨fun b hh => ?_, hs⟩⟩
  have := hb b hh
  omega
 | k + 1, A, B, g, h, hs, hb => by
  obtain ⟨A', a, rfl⟩ : ∃ A' a, A = A' ++ [a] := ⟨A.dropLast, A.getLast (by intro z; simp [z] at h), (List.dropLast_concat_getLast _).symm⟩
  have l : A'.length = k := by simpa using h
  have ra : rd (A' ++ [a] ++ g :: B) (k : Int) = a := by
   rw [rdn, List.getD_eq_getElem?_getD, List.append_assoc, List.getElem?_append_right (by omega), l, Nat.sub_self]
   rfl
  have st : ∀ v, (A' ++ [a] ++ g :: B).set (k + 1) v = A' ++ [a] ++ v :: B := fun v => by
   rw [List.set_append_right _ _ (by simp [l]), List.length_append, l]
   simp
  rw [insF, ra, st]
  by_cases c : a < x
  ·rw [if_pos c]
   have := insF_spec x k A' (a :: B) a l (by simpa using hs) (fun b hh => by
    rcases List.mem_cons.1 hh with rfl | hh
    ·exact c
    ·exact hb b hh)
   rw [show A' ++ [a] ++ a :: B = A' ++ a :: (a :: B) by simp, show A' ++ [a] ++ B = A' ++ a :: B by simp]
   exact this
  ·rw [if_neg c, st]
   refine ⟨List.perm_middle, ?_⟩
   have hp := List.pairwise_append.1 hs
   have ha := List.pairwise_append.1 hp.1
   refine List.pairwise_append.2 ⟨hp.1, List.pairwise_cons.2 ⟨fun b hh => by have := hb b hh; omega, hp.2.1⟩, fun y hy z hz => ?_⟩
   have yx : x ≤ y := by
    rcases List.mem_append.1 hy with hy | hy
    ·have := ha.2.2 y hy a (by simp); omega
    ·rw [List.mem_singleton.1 hy]; omega
   rcases List.mem_cons.1 hz with rfl | hz
   ·exact yx
   ·exact hp.2.2 y hy z hz
theorem insF_length (x : Int) : ∀ (k : Nat) (out : List Int), (insF k out x).length = out.length
 | 0, out => by simp [insF]
 | k + 1, out => by
  rw [insF]
  split
  ·rw [insF_length x k, List.length_set]
  ·rw [List.length_set]
/-- The list in descending order. -/
def descF : List Int → List Int → List Int
 | [], out => out
 | x :: l, out => descF l (insF out.length (out ++ [0]) x)
def descL (l : List Int) : List Int := descF l []
theorem descF_spec : ∀ (l out : List Int), Desc out → (descF l out).Perm (l ++ out) ∧ Desc (descF l out)
 | [], out, h => ⟨List.Perm.refl _, h⟩
 | x :: l, out, h => by
  have i := insF_spec x out.length out [] 0 rfl (by simpa using h) (by simp)
  have := descF_spec l _ i.2
  refine ⟨this.1.trans ?_, this.2⟩
  rw [List.cons_append]
  refine (List.Perm.append_left l i.1).trans ?_
  rw [List.append_nil]
  exact List.perm_middle
theorem descL_spec (l : List Int) : (descL l).Perm l ∧ Desc (descL l) := by
 have := descF_spec l [] List.Pairwise.nil
 rwa [List.append_nil] at this
theorem descL_length (l : List Int) : (descL l).length = l.length := (descL_spec l).1.length_eq

end Go.Proofs.Ytlohmpgbjgidpad.Q
namespace Go.Proofs.Ytlohmpgbjgidpad.Q
open Go.RowKit Go.Proofs.Ytlohmpgbjgidpad.P Go.Proofs.YtlohmpgbjgidpadW.PrintWords Go.Proofs.YtlohmpgbjgidpadW.PrintLast
/- The reference's sorting: descending order. -/
theorem insertS_ev (l : List Int) (i : Nat) (x : Int) (r : List Int) : ∀ (kk : Nat) (out : List Int), kk < out.length → out.length < 1000000 →
  Ev (fun k => spec_l04Down.l0 k (insF kk out x) l (l.length : Int) (wrap64 ((i : Int) + 1))) r → Ev (fun k => spec_l04Down.l1 k out x kk l (l.length : Int) i) r
 | 0, out, h, hl, hr => by
  refine Ev.step (fun k => by rw [spec_l04Down.l1]) (Ev.neg (by omega) (Ev.pos (by omega) (Ev.pos (by omega) ?_)))
  exact hr
 | kk + 1, out, h, hl, hr => by
  refine Ev.step (fun k => by rw [spec_l04Down.l1]) (Ev.pos (by omega) ?_)
  rw [show wrap64 (((kk + 1 : Nat) : Int) - 1) = (kk : Int) by rw [w64 (by omega) (by omega)]; omega]
  refine Ev.pos (by omega) (Ev.pos (by omega) ?_)
  rw [insF] at hr
  by_cases c : rd out (kk : Int) < x
  ·rw [if_pos c] at hr
   refine Ev.pos c (Ev.pos (by omega) (Ev.pos (by omega) ?_))
   exact insertS_ev l i x r kk _ (by rw [List.length_set]; omega) (by rw [List.length_set]; exact hl) hr
  ·rw [if_neg c] at hr
   refine Ev.neg c (Ev.pos (by omega) (Ev.pos (by omega) ?_))
   exact hr
theorem downS_loop (l : List Int) (hl : l.length < 100000) : ∀ (d i : Nat) (out : List Int), i + d = l.length → out.length = i → Ev (fun k => spec_l04Down.l0 k out l (l.length : Int) i) (descF (l.drop i) out) := by
 intro d
 induction d with
 | zero =>
  intro i out h ho
  refine Ev.step (fun k => by rw [spec_l04Down.l0]) (Ev.neg (by omega) ?_)
  rw [List.drop_of_length_le (by omega)]
  exact Ev.now _
 | succ d ih =>
  intro i out h ho
  refine Ev.step (fun k => by rw [spec_l04Down.l0]) (Ev.pos (by omega) (Ev.pos (by omega) (Ev.pos (by omega) (Ev.pos (by omega) (Ev.plain rfl ?_)))))
  have e0 : wrap64 (((out ++ [(0 : Int)]).length : Int) - 1) = ((out.length : Nat) : Int) := by
   have z : (out ++ [(0 : Int)]).length = out.length + 1 := by simp
   rw [z, w64 (by omega) (by omega)]
   omega
  rw [rdg (by omega), e0]
  refine insertS_ev l i _ _ out.length (out ++ [0]) (by simp) (by simp; omega) ?_
  rw [List.drop_eq_getElem_cons (by omega), descF, w64n (by omega)]
  exact ih (i + 1) _ (by omega) (by rw [insF_length]; simp; omega)
theorem downS_ev (l : List Int) (hl : l.length < 100000) : Ev (fun k => spec_l04Down.f k l) (descL l) := by
 refine Ev.same (fun k => by rw [spec_l04Down.f]) ?_
 exact downS_loop l hl l.length 0 [] (by omega) rfl
theorem rdLS {xs : List (List Int)} {i : Nat} (h : i < xs.length) : rd_L1 xs (i : Int) = xs[i] := by simp [rd_L1, h]
theorem lengthsS_loop (cs : List (List Int)) (hl : cs.length < 100000) : ∀ (d i : Nat), i + d = cs.length → Ev (fun k => spec_l04Lengths.l0 k ((cs.take i).map fun c => (c.length : Int)) cs (cs.length : Int) i) (descL (cs.map fun c => (c.length : Int))) := by
 intro d
 induction d with
 | zero =>
  intro i h
  refine Ev.step (fun k => by rw [spec_l04Lengths.l0]) (Ev.neg (by omega) ?_)
  rw [List.take_of_length_le (by omega)]
  exact Ev.bind (downS_ev _ (by rw [List.length_map]; omega)) (Ev.now _)
 | succ d ih =>
  intro i h
  refine Ev.step (fun k => by rw [spec_l04Lengths.l0]) (Ev.pos (by omega) (Ev.pos (by omega) (Ev.pos (by omega) (Ev.pos (by rw [List.length_map, List.length_take]; omega) ?_))))
  have := ih (i + 1) (by omega)
  rw [List.take_succ_eq_append_getElem (by omega), List.map_append] at this
  rw [rdLS (by omega), w64n (by omega)]
  exact this
theorem lengthsS_ev (cs : List (List Int)) (hl : cs.length < 100000) : Ev (fun k => spec_l04Lengths.f k cs) (descL (cs.map fun c => (c.length : Int))) := by
 refine Ev.same (fun k => by rw [spec_l04Lengths.f]) ?_
 exact lengthsS_loop cs hl cs.length 0 (by omega)

end Go.Proofs.Ytlohmpgbjgidpad.Q
namespace Go.Proofs.Ytlohmpgbjgidpad.Q
open Go.RowKit Go.Proofs.Ytlohmpgbjgidpad.P Go.Proofs.YtlohmpgbjgidpadW.PrintWords Go.Proofs.YtlohmpgbjgidpadW.PrintLast
/- The two AnglesOf functions and the two StratumOf functions. -/
theorem corners_sum (r u : List Int) : ((cornersB r u).map List.length).sum ≤ 24 ∧ (cornersB r u).length ≤ 24 ∧ ∀ c ∈ cornersB r u, c.length ≤ 24 := by
 unfold cornersB
 by_cases h : transB r u = true
 ·rw [if_pos h]
  have := cycB_sum (aroundL r u)
  rw [cycB, if_pos ((transB_iff r u).1 h).permA] at this
  exact this
 ·rw [if_neg h]
  simp
def lensL (cs : List (List Int)) : List Int := cs.map fun c => (c.length : Int)
/-- What AnglesOf returns. -/
def angB (r u : List Int) : List Int := descL (lensL (cornersB r u))
theorem angB_mem (r u : List Int) : ∀ x ∈ angB r u, 0 ≤ x ∧ x ≤ 24 := by
 intro x hx
 have := (descL_spec _).1.mem_iff.1 hx
 obtain ⟨c, hc, rfl⟩ := List.mem_map.1 this
 have := (corners_sum r u).2.2 c hc
 omega
theorem angB_length (r u : List Int) : (angB r u).length ≤ 24 := by
 rw [angB, descL_length, lensL, List.length_map]
 exact (corners_sum r u).2.1
theorem spec_AnglesOf_ev (r u : List Int) (hr : r.length < 9223372036854775807) (hu : u.length < 9223372036854775807) : Ev (fun k => spec_AnglesOf.f k r u) (angB r u) := by
 refine Ev.same (fun k => by rw [spec_AnglesOf.f]) (Ev.bind (spec_CornersOf_ev r u hr hu) ?_)
 refine Ev.bind (lengthsS_ev _ (by have := (corners_sum r u).2.1; omega)) ?_
 exact Ev.now _
theorem sort_desc (l : List Int) : (l.mergeSort fun x y => decide (y ≤ x)) = descL l := by
 refine desc_unique ((List.mergeSort_perm l _).trans (descL_spec l).1.symm) ?_ (descL_spec l).2
 have := List.pairwise_mergeSort (le := fun x y : Int => decide (y ≤ x)) (fun a b c h1 h2 => by simp at *; omega) (fun a b => by simp; omega) l
 exact this.imp fun h => by simpa using h
theorem impl_ang_loop (cs : List (List Int)) (hl : cs.length ≤ 24) (hc : ∀ c ∈ cs, c.length ≤ 24) : ∀ (d i : Nat), i + d = cs.length → Ev (fun k => impl_AnglesOf.l0 k (lensL (cs.take i)) cs (cs.length : Int) i) (descL (lensL cs)) := by
 intro d
 induction d with
 | zero =>
  intro i h
  refine Ev.step (fun k => by rw [impl_AnglesOf.l0]) (Ev.neg (by omega) ?_)
  rw [List.take_of_length_le (by omega)]
  refine Ev.plain (a := descL (lensL cs)) ?_ (Ev.now _)
  unfold slices_SortFunc_int_int.f
  rw [if_pos ⟨fun x hx => by
   obtain ⟨c, m, rfl⟩ := List.mem_map.1 hx
   have := hc c m
   omega, by rw [lensL, List.length_map]; omega⟩, sort_desc]
 | succ d ih =>
  intro i h
  refine Ev.step (fun k => by rw [impl_AnglesOf.l0]) (Ev.pos (by omega) (Ev.pos (by omega) (Ev.pos (by omega) (Ev.pos (by rw [lensL, List.length_map, List.length_take]; omega) ?_))))
  have := ih (i + 1) (by omega)
  rw [List.take_succ_eq_append_getElem (by omega), lensL, List.map_append] at this
  rw [rdLS (by omega), w64n (by omega)]
  exact this
theorem impl_AnglesOf_ev (r u : List Int) : Ev (fun k => impl_AnglesOf.f k r u) (angB r u) := by
 have h := corners_sum r u
 refine Ev.same (fun k => by rw [impl_AnglesOf.f]) (Ev.bind (impl_CornersOf_ev r u) ?_)
 exact impl_ang_loop _ h.2.1 h.2.2 (cornersB r u).length 0 (by omega)
/-- The numbers above 1, each less 1. -/
def lessL1 (l : List Int) : List Int := (l.filter fun x => decide (x > 1)).map fun x => x - 1
theorem lessL1_snoc (l : List Int) (x : Int) : lessL1 (l ++ [x]) = if x > 1 then lessL1 l ++ [x - 1] else lessL1 l := by
 unfold lessL1
 by_cases c : x > 1
 ·rw [if_pos c]; simp [List.filter_append, c]
 ·rw [if_neg c]; simp [List.filter_append, c]
theorem lessL1_length (l : List Int) : (lessL1 l).length ≤ l.length := by
 unfold lessL1
 rw [List.length_map]
 exact List.length_filter_le _ _
/-- What StratumOf returns. -/
def strB (r u : List Int) : List Int := lessL1 (angB r u)
theorem strB_length (r u : List Int) : (strB r u).length ≤ 24 := Nat.le_trans (lessL1_length _) (angB_length r u)
theorem spec_str_loop (l : List Int) (hl : l.length ≤ 24) (hm : ∀ x ∈ l, 0 ≤ x ∧ x ≤ 24) : ∀ (d i : Nat), i + d = l.length → Ev (fun k => spec_StratumOf.l0 k (lessL1 (l.take i)) l (l.length : Int) i) (lessL1 l) := by
 intro d
 induction d with
 | zero =>
  intro i h
  refine Ev.step (fun k => by rw [spec_StratumOf.l0]) (Ev.neg (by omega) ?_)
  rw [List.take_of_length_le (by omega)]
  exact Ev.now _
 | succ d ih =>
  intro i h
  have m := hm _ (List.getElem_mem (show i < l.length by omega))
  have := ih (i + 1) (by omega)
  rw [List.take_succ_eq_append_getElem (by omega), lessL1_snoc] at this
  refine Ev.step (fun k => by rw [spec_StratumOf.l0]) (Ev.pos (by omega) (Ev.pos (by omega) (Ev.pos (by omega) ?_)))
  rw [rdg (by omega), w64n (by omega), w64 (by omega) (by omega)]
  by_cases c : l[i]'(by omega) > 1
  ·rw [if_pos c] at this
   refine Ev.pos c (Ev.pos (by have := lessL1_length (l.take i); rw [List.length_take] at this; omega) ?_)
   exact this
  ·rw [if_neg c] at this
   exact Ev.neg c this
theorem spec_StratumOf_ev (r u : List Int) (hr : r.length < 9223372036854775807) (hu : u.length < 9223372036854775807) : Ev (fun k => spec_StratumOf.f k r u) (strB r u) := by
 refine Ev.same (fun k => by rw [spec_StratumOf.f]) (Ev.bind (spec_AnglesOf_ev r u hr hu) ?_)
 exact spec_str_loop _ (angB_length r u) (angB_mem r u) (angB r u).length 0 (by omega)
theorem impl_str_loop (l : List Int) (hl : l.length ≤ 24) (hm : ∀ x ∈ l, 0 ≤ x ∧ x ≤ 24) : ∀ (d i : Nat), i + d = l.length → Ev (fun k => impl_StratumOf.l0 k (lessL1 (l.take i)) l (l.length : Int) i) (lessL1 l) := by
 intro d
 induction d with
 | zero =>
  intro i h
  refine Ev.step (fun k => by rw [impl_StratumOf.l0]) (Ev.neg (by omega) ?_)
  rw [List.take_of_length_le (by omega)]
  exact Ev.now _
 | succ d ih =>
  intro i h
  have m := hm _ (List.getElem_mem (show i < l.length by omega))
  have := ih (i + 1) (by omega)
  rw [List.take_succ_eq_append_getElem (by omega), lessL1_snoc] at this
  refine Ev.step (fun k => by rw [impl_StratumOf.l0]) (Ev.pos (by omega) (Ev.pos (by omega) (Ev.pos (by omega) ?_)))
  rw [rdg (by omega), w64n (by omega), w64 (by omega) (by omega)]
  by_cases c : l[i]'(by omega) > 1
  ·rw [if_pos c] at this
   refine Ev.pos c (Ev.pos (by have := lessL1_length (l.take i); rw [List.length_take] at this; omega) ?_)
   exact this
  ·rw [if_neg c] at this
   exact Ev.neg c this
theorem impl_StratumOf_ev (r u : List Int) : Ev (fun k => impl_StratumOf.f k r u) (strB r u) := by
 refine Ev.same (fun k => by rw [impl_StratumOf.f]) (Ev.bind (impl_AnglesOf_ev r u) ?_)
 exact impl_str_loop _ (angB_length r u) (angB_mem r u) (angB r u).length 0 (by omega)

end Go.Proofs.Ytlohmpgbjgidpad.Q
namespace Go.Proofs.Ytlohmpgbjgidpad.Pure
open Go.RowKit Go.Proofs.Ytlohmpgbjgidpad.P Go.Proofs.YtlohmpgbjgidpadW.PrintWords Go.Proofs.YtlohmpgbjgidpadW.PrintLast Go.Proofs.Ytlohmpgbjgidpad.Q

theorem FnExactStratumOf : laws_FnExactStratumOf.Pure := by
 intro r u hr _ hu _
 have hm : maxLen ≤ 9223372036854775807 := by decide
 refine Ev.out ?_
 refine Ev.same (fun k => by rw [laws_FnExactStratumOf.f]) ?_
 by_cases h : (1048576 : Int) < (r.length : Int) + (u.length : Int)
 ·refine Ev.plain (szS_big r u _ (by omega) (by omega) (by omega) (by omega) h) ?_
  exact Ev.pos (by omega) (Ev.now _)
 refine Ev.plain (szS_small r u _ (by omega) (by omega)) ?_
 refine Ev.neg (by omega) ?_
 have hl := strB_length r u
 refine Ev.bind (toSurface_ev r u (by omega) (by omega)) ?_
 refine Ev.bind (spec_StratumOf_ev r u (by omega) (by omega)) ?_
 refine Ev.bind (toSurface_ev r u (by omega) (by omega)) ?_
 refine Ev.bind (impl_StratumOf_ev r u) ?_
 refine Ev.bind (eqIntS_self _ (by omega)) (Ev.pos rfl ?_)
 refine Ev.bind (toSurface_ev r u (by omega) (by omega)) ?_
 refine Ev.bind (eqSurface_self r u (by omega) (by omega)) (Ev.pos rfl ?_)
 refine Ev.bind (markSurface_any r u (by omega)) ?_
 refine Ev.neg (by omega) ?_
 refine Ev.bind (eqIntS_self _ (by omega)) ?_
 refine Ev.step (fun k => by rw [laws_FnExactStratumOf.j0]) (Ev.neg (by simp) ?_)
 refine Ev.bind (markIntS_ev _ 1 (by omega) (w64 (by omega) (by omega))) ?_
 refine Ev.bind (heldIntS_ev _ 1 (by omega) (w64 (by omega) (by omega))) ?_
 refine Ev.neg (by rw [w1 _ (by omega)]; omega) (Ev.pos rfl ?_)
 refine Ev.bind (toSurface_ev r u (by omega) (by omega)) ?_
 refine Ev.bind (impl_StratumOf_ev r u) ?_
 refine Ev.bind (eqIntS_self _ (by omega)) (Ev.pos rfl ?_)
 refine Ev.bind (heldIntS_ev _ 1 (by omega) (w64 (by omega) (by omega))) ?_
 exact Ev.neg (by rw [w1 _ (by omega)]; omega) (Ev.pos rfl (Ev.now _))

end Go.Proofs.Ytlohmpgbjgidpad.Pure

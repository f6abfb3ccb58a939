/- The law of ShearPeriod holds for every surface: the program's answer is the reference's, and the argument stays as it is. -/
import Derived.Test.YtlohmpgbjgidpadWA
import Derived.Test.YtlohmpgbjgidpadPx1
import Derived.Test.YtlohmpgbjgidpadPx10
import Derived.Test.YtlohmpgbjgidpadPx11
import Derived.Test.YtlohmpgbjgidpadPx15
import Derived.Test.YtlohmpgbjgidpadPx16
import Derived.Test.YtlohmpgbjgidpadPx17
import Derived.Test.YtlohmpgbjgidpadPx18
import Derived.Test.YtlohmpgbjgidpadPx19
import Derived.Test.YtlohmpgbjgidpadPx2
import Derived.Test.YtlohmpgbjgidpadPx21
import Derived.Test.YtlohmpgbjgidpadPx22
import Derived.Test.YtlohmpgbjgidpadPx25
import Derived.Test.YtlohmpgbjgidpadPx27
import Derived.Test.YtlohmpgbjgidpadPx28
import Derived.Test.YtlohmpgbjgidpadPx3
import Derived.Test.YtlohmpgbjgidpadPx38
import Derived.Test.YtlohmpgbjgidpadPx4
import Derived.Test.YtlohmpgbjgidpadPx49
import Derived.Test.YtlohmpgbjgidpadPx5
import Derived.Test.YtlohmpgbjgidpadPx50
import Derived.Test.YtlohmpgbjgidpadPx51
import Derived.Test.YtlohmpgbjgidpadPx52
import Derived.Test.YtlohmpgbjgidpadPx53
import Derived.Test.YtlohmpgbjgidpadPx54
import Derived.Test.YtlohmpgbjgidpadPx55
import Derived.Test.YtlohmpgbjgidpadPx59
import Derived.Test.YtlohmpgbjgidpadPx6
import Derived.Test.YtlohmpgbjgidpadPx60
import Derived.Test.YtlohmpgbjgidpadPx61
import Derived.Test.YtlohmpgbjgidpadPx62
import Derived.Test.YtlohmpgbjgidpadPx63
import Derived.Test.YtlohmpgbjgidpadPx64
import Derived.Test.YtlohmpgbjgidpadPx65
import Derived.Test.YtlohmpgbjgidpadPx66
import Derived.Test.YtlohmpgbjgidpadPx68
import Derived.Test.YtlohmpgbjgidpadPx69
import Derived.Test.YtlohmpgbjgidpadPx7
import Derived.Test.YtlohmpgbjgidpadPx70
import Derived.Test.YtlohmpgbjgidpadPx71
import Derived.Test.YtlohmpgbjgidpadPx73
import Derived.Test.YtlohmpgbjgidpadPx74
import Derived.Test.YtlohmpgbjgidpadPx75
import Derived.Test.YtlohmpgbjgidpadPx76
import Derived.Test.YtlohmpgbjgidpadPx77
import Derived.Test.YtlohmpgbjgidpadPx78
import Derived.Test.YtlohmpgbjgidpadPx79
import Derived.Test.YtlohmpgbjgidpadPx8
import Derived.Test.YtlohmpgbjgidpadPx80
import Derived.Test.YtlohmpgbjgidpadPx88
import Derived.Test.YtlohmpgbjgidpadPx89
import Derived.Test.YtlohmpgbjgidpadPx90
set_option linter.unusedVariables false
set_option linter.unusedSimpArgs false

namespace Go.Proofs.Ytlohmpgbjgidpad.Q
open Go.RowKit Go.Proofs.Ytlohmpgbjgidpad.P Go.Proofs.YtlohmpgbjgidpadW.PrintWords Go.Proofs.YtlohmpgbjgidpadW.PrintLast
/- Small lemmas on the printed functions' words: numbers of 64 bits, elements of lists, rounds. -/
theorem w64 {x : Int} (h : -9223372036854775808 ≤ x) (h' : x ≤ 9223372036854775807) : wrap64 x = x := by
 unfold wrap64; omega
theorem w64n {i : Nat} (h : i < 9223372036854775807) : wrap64 ((i : Int) + 1) = ((i + 1 : Nat) : Int) := by
 rw [w64 (by omega) (by omega)]; omega
theorem rdg {xs : List Int} {i : Nat} (h : i < xs.length) : rd xs (i : Int) = xs[i] := by simp [rd, h]
/-- From a round on. -/
theorem Ev.from {α : Type} {g : Nat → Option α} {r : α} {K : Nat} (h : ∀ k, K ≤ k → g k = some r) : Ev g r := ⟨K, h⟩
theorem Ev.succ {α : Type} {g f : Nat → Option α} {r : α} (h : ∀ k, g (k + 1) = f k) (hf : Ev f r) : Ev g r := Ev.step h hf
theorem Ev.plain {α β : Type} {x : Option α} {f : Nat → α → Option β} {a : α} {r : β} (h : x = some a) (k : Ev (fun n => f n a) r) : Ev (fun n => x.bind (f n)) r := by
 subst h; exact k
theorem Ev.pos {α : Type} {c : Prop} [Decidable c] {g f : Nat → Option α} {r : α} (h : c) (hg : Ev g r) : Ev (fun k => if c then g k else f k) r := by
 simp only [if_pos h]; exact hg
theorem Ev.neg {α : Type} {c : Prop} [Decidable c] {g f : Nat → Option α} {r : α} (h : ¬ c) (hf : Ev f r) : Ev (fun k => if c then g k else f k) r := by
 simp only [if_neg h]; exact hf
theorem Ev.out {α : Type} {g : Nat → Option α} {r : α} (h : Ev g r) : ∃ k, g k = some r := h.rounds
theorem Ev.same {α : Type} {g f : Nat → Option α} {r : α} (h : ∀ k, g k = f k) (hf : Ev f r) : Ev g r := Ev.congr h hf

end Go.Proofs.Ytlohmpgbjgidpad.Q
namespace Go.Proofs.Ytlohmpgbjgidpad.Q
open Go.RowKit Go.Proofs.Ytlohmpgbjgidpad.P Go.Proofs.YtlohmpgbjgidpadW.PrintWords Go.Proofs.YtlohmpgbjgidpadW.PrintLast
/- What the printed functions on lists of numbers come to: copies, comparisons, marks. -/
theorem toIntS_loop (xs : List Int) (hn : xs.length < 9223372036854775807) : ∀ (d : Nat) (i : Nat) (ys : List Int), i + d = xs.length → ys.length = xs.length →
  Ev (fun k => laws_toIntS.l0 k xs ys i) (ys.take i ++ xs.drop i) := by
 intro d
 induction d with
 | zero =>
  intro i ys h hl
  refine Ev.step (fun k => by rw [laws_toIntS.l0]) ?_
  repeat (first | refine Ev.pos (by omega) ?_ | refine Ev.neg (by omega) ?_)
  rw [List.take_of_length_le (by omega), List.drop_of_length_le (by omega), List.append_nil]
  exact Ev.now _
 | succ d ih =>
  intro i ys h hl
  refine Ev.step (fun k => by rw [laws_toIntS.l0]) ?_
  repeat (first | refine Ev.pos (by omega) ?_ | refine Ev.neg (by omega) ?_)
  rw [w64n (by omega), rdg (by omega), Int.toNat_natCast]
  have := ih (i + 1) (ys.set i xs[i]) (by omega) (by simpa using hl)
  rw [List.take_succ_eq_append_getElem (by simp; omega), List.getElem_set_self, List.take_set_of_le (by omega), List.append_assoc, List.singleton_append, ← List.drop_eq_getElem_cons (by omega)] at this
  exact this
theorem toIntS_ev (xs : List Int) (hn : xs.length ≤ 35184372088832) : Ev (fun k => laws_toIntS.f k xs) xs := by
 refine Ev.same (fun k => by rw [laws_toIntS.f]) ?_
 repeat (first | refine Ev.pos (by omega) ?_ | refine Ev.neg (by omega) ?_)
 have := toIntS_loop xs (by omega) xs.length 0 (List.replicate xs.length 0) (by omega) (by simp)
 simpa using this
theorem eqIntS_loop (xs ys : List Int) (hl : xs.length = ys.length) (hn : xs.length < 9223372036854775807) : ∀ (d : Nat) (i : Nat), i + d = xs.length →
  Ev (fun k => laws_eqIntS.l0 k xs ys i) (decide (xs.drop i = ys.drop i)) := by
 intro d
 induction d with
 | zero =>
  intro i h
  refine Ev.step (fun k => by rw [laws_eqIntS.l0]) ?_
  repeat (first | refine Ev.pos (by omega) ?_ | refine Ev.neg (by omega) ?_)
  rw [List.drop_of_length_le (by omega), List.drop_of_length_le (by omega)]
  exact Ev.now _
 | succ d ih =>
  intro i h
  refine Ev.step (fun k => by rw [laws_eqIntS.l0]) ?_
  repeat (first | refine Ev.pos (by omega) ?_ | refine Ev.neg (by omega) ?_)
  rw [rdg (by omega), rdg (by omega), List.drop_eq_getElem_cons (l := xs) (i := i) (by omega), List.drop_eq_getElem_cons (l := ys) (i := i) (by omega)]
  by_cases e : xs[i] = ys[i]
  ·refine Ev.pos e ?_
   rw [w64n (by omega), decide_eq_decide.2 (show _ ↔ xs.drop (i + 1) = ys.drop (i + 1) from ⟨fun h => (List.cons.inj h).2, fun h => by rw [e, h]⟩)]
   exact ih (i + 1) (by omega)
  ·refine Ev.neg e ?_
   rw [decide_eq_false fun h => e (List.cons.inj h).1]
   exact Ev.now _
theorem eqIntS_ev (xs ys : List Int) (hn : xs.length < 9223372036854775807) : Ev (fun k => laws_eqIntS.f k xs ys) (decide (xs = ys)) := by
 refine Ev.same (fun k => by rw [laws_eqIntS.f]) ?_
 by_cases h : xs.length = ys.length
 ·refine Ev.pos (by omega) ?_
  simpa using eqIntS_loop xs ys h hn xs.length 0 (by omega)
 ·refine Ev.neg (by omega) ?_
  have : decide (xs = ys) = false := decide_eq_false fun e => h (by rw [e])
  rw [this]
  exact Ev.now _
theorem eqIntS_self (xs : List Int) (hn : xs.length < 9223372036854775807) : Ev (fun k => laws_eqIntS.f k xs xs) true := by
 simpa using eqIntS_ev xs xs hn

end Go.Proofs.Ytlohmpgbjgidpad.Q
namespace Go.Proofs.Ytlohmpgbjgidpad.Q
open Go.RowKit Go.Proofs.Ytlohmpgbjgidpad.P Go.Proofs.YtlohmpgbjgidpadW.PrintWords Go.Proofs.YtlohmpgbjgidpadW.PrintLast
/- Permutations: the two PermOk functions tell whether a list of at most 24 numbers is a permutation. -/
def permFrom (n : Nat) : List Int → List Int → Bool
 | [], _ => true
 | x :: r, pre => (decide (0 ≤ x) && decide (x < (n : Int))) && (!(pre.contains x) && permFrom n r (pre ++ [x]))
def permB (l : List Int) : Bool := decide (l.length ≤ 24) && permFrom l.length l []
/-- A permutation of the numbers from 0 up to its length. -/
structure IsPerm (l : List Int) : Prop where
 lo : ∀ x ∈ l, 0 ≤ x
 hi : ∀ x ∈ l, x < (l.length : Int)
 nodup : l.Nodup
theorem permFrom_iff (n : Nat) : ∀ (r pre : List Int), permFrom n r pre = true ↔ (∀ x ∈ r, 0 ≤ x ∧ x < (n : Int)) ∧ (∀ x ∈ r, x ∉ pre) ∧ r.Nodup
 | [], pre => by simp [permFrom]
 | x :: r, pre => by
  rw [permFrom, Bool.and_eq_true, Bool.and_eq_true, Bool.and_eq_true, permFrom_iff n r (pre ++ [x])]
  simp only [decide_eq_true_eq, Bool.not_eq_true', List.mem_cons, forall_eq_or_imp, List.nodup_cons, List.mem_append, List.mem_singleton, not_or, List.contains_eq_mem, decide_eq_false_iff_not]
  constructor
  ·rintro ⟨⟨h1, h2⟩, h3, h4, h5, h6⟩
   exact ⟨⟨⟨h1, h2⟩, h4⟩, ⟨h3, fun y hy => (h5 y hy).1⟩, fun hx => (h5 x hx).2.1 rfl, h6⟩
  ·rintro ⟨⟨⟨h1, h2⟩, h4⟩, ⟨h3, h5⟩, h6, h7⟩
   exact ⟨⟨h1, h2⟩, h3, h4, fun y hy => ⟨h5 y hy, fun e => h6 (e ▸ hy), fun h => by cases h⟩, h7⟩
theorem permB_iff (l : List Int) : permB l = true ↔ l.length ≤ 24 ∧ IsPerm l := by
 rw [permB, Bool.and_eq_true, decide_eq_true_eq, permFrom_iff]
 exact ⟨fun ⟨a, b, _, d⟩ => ⟨a, fun x hx => (b x hx).1, fun x hx => (b x hx).2, d⟩, fun ⟨a, b⟩ => ⟨a, fun x hx => ⟨b.lo x hx, b.hi x hx⟩, (fun _ _ h => by cases h), b.nodup⟩⟩
theorem spec_has_loop (l : List Int) (x : Int) (hn : l.length < 9223372036854775807) : ∀ (d i : Nat), i + d = l.length → Ev (fun k => spec_l02Has.l0 k x l (l.length : Int) i) ((l.drop i).contains x) := by
 intro d
 induction d with
 | zero =>
  intro i h
  refine Ev.step (fun k => by rw [spec_l02Has.l0]) (Ev.neg (by omega) ?_)
  rw [List.drop_of_length_le (by omega)]
  exact Ev.now _
 | succ d ih =>
  intro i h
  refine Ev.step (fun k => by rw [spec_l02Has.l0]) (Ev.pos (by omega) (Ev.pos (by omega) (Ev.pos (by omega) ?_)))
  have hi := ih (i + 1) (by omega)
  rw [rdg (by omega), w64n (by omega), List.drop_eq_getElem_cons (by omega), List.contains_cons]
  by_cases e : l[i] = x
  ·refine Ev.pos e ?_
   rw [show (x == l[i]) = true by simp [e], Bool.true_or]
   exact Ev.now _
  ·refine Ev.neg e ?_
   rw [show (x == l[i]) = false by simpa using fun h => e h.symm, Bool.false_or]
   exact hi
theorem spec_has_ev (l : List Int) (x : Int) (hn : l.length < 9223372036854775807) : Ev (fun k => spec_l02Has.f k l x) (l.contains x) :=
 Ev.same (fun k => by rw [spec_l02Has.f]; rfl) (spec_has_loop l x hn l.length 0 (by omega))
theorem in_some (a lo hi : Int) : spec_l01In.f a lo hi = some (decide (lo ≤ a) && decide (a ≤ hi)) := by
 unfold spec_l01In.f
 by_cases h : a ≥ lo
 ·rw [if_pos h, decide_eq_true (show lo ≤ a from h), Bool.true_and]
 ·rw [if_neg h, decide_eq_false (show ¬ lo ≤ a from h), Bool.false_and]
theorem spec_perm_loop (l : List Int) (hn : l.length < 9223372036854775807) : ∀ (d i : Nat), i + d = l.length → Ev (fun k => spec_PermOk.l0 k l l (l.length : Int) i) (permFrom l.length (l.drop i) (l.take i)) := by
 intro d
 induction d with
 | zero =>
  intro i h
  refine Ev.step (fun k => by rw [spec_PermOk.l0]) (Ev.neg (by omega) ?_)
  rw [List.drop_of_length_le (by omega)]
  exact Ev.now _
 | succ d ih =>
  intro i h
  refine Ev.step (fun k => by rw [spec_PermOk.l0]) (Ev.pos (by omega) (Ev.pos (by omega) (Ev.pos (by omega) ?_)))
  have hi := ih (i + 1) (by omega)
  rw [rdg (by omega), w64n (by omega), List.drop_eq_getElem_cons (by omega), permFrom, ← List.take_succ_eq_append_getElem (by omega), w64 (by omega) (by omega)]
  refine Ev.plain (in_some _ _ _) ?_
  have e : (decide (0 ≤ l[i]) && decide (l[i] ≤ (l.length : Int) - 1)) = (decide (0 ≤ l[i]) && decide (l[i] < (l.length : Int))) := by
   rw [show decide (l[i] ≤ (l.length : Int) - 1) = decide (l[i] < (l.length : Int)) from decide_eq_decide.2 (by omega)]
  rw [e]
  by_cases c : (decide (0 ≤ l[i]) && decide (l[i] < (l.length : Int))) = true
  ·refine Ev.pos c (Ev.pos (by omega) ?_)
   rw [c, Bool.true_and, Int.toNat_natCast]
   refine Ev.bind (spec_has_ev _ _ (by rw [List.length_take]; omega)) ?_
   by_cases b : (l.take i).contains l[i] = true
   ·refine Ev.pos b ?_
    rw [b, Bool.not_true, Bool.false_and]
    exact Ev.now _
   ·refine Ev.neg b ?_
    rw [show (l.take i).contains l[i] = false by simpa using b, Bool.not_false, Bool.true_and]
    exact hi
  ·refine Ev.neg c ?_
   rw [show (decide (0 ≤ l[i]) && decide (l[i] < (l.length : Int))) = false by simpa using c, Bool.false_and]
   exact Ev.now _
theorem spec_PermOk_ev (l : List Int) (hn : l.length < 9223372036854775807) : Ev (fun k => spec_PermOk.f k l) (permB l) := by
 refine Ev.same (fun k => by rw [spec_PermOk.f]) ?_
 by_cases h : (l.length : Int) > 24
 ·refine Ev.pos h ?_
  rw [permB, decide_eq_false (show ¬ l.length ≤ 24 by omega), Bool.false_and]
  exact Ev.now _
 ·refine Ev.neg h ?_
  rw [permB, decide_eq_true (show l.length ≤ 24 by omega), Bool.true_and]
  exact spec_perm_loop l hn l.length 0 (by omega)
theorem permOkL_from (n : Nat) (hn : n ≤ 24) : ∀ (r pre : List Int) (seen : List Bool), seen.length = 24 → (∀ x : Int, 0 ≤ x → x < 24 → rdOf false seen x = pre.contains x) → permOkL r n seen = permFrom n r pre
 | [], pre, seen, hl, hs => rfl
 | x :: r, pre, seen, hl, hs => by
  rw [permOkL, permFrom]
  by_cases h1 : x < 0
  ·rw [if_pos h1, decide_eq_false (show ¬ 0 ≤ x by omega), Bool.false_and, Bool.false_and]
  rw [if_neg h1, decide_eq_true (show 0 ≤ x by omega), Bool.true_and]
  by_cases h2 : (n : Int) ≤ x
  ·rw [if_pos h2, decide_eq_false (show ¬ x < (n : Int) by omega), Bool.false_and]
  rw [if_neg h2, decide_eq_true (show x < (n : Int) by omega), Bool.true_and, hs x (by omega) (by omega)]
  by_cases h3 : pre.contains x = true
  ·rw [if_pos h3, h3, Bool.not_true, Bool.false_and]
  rw [if_neg h3, show pre.contains x = false by simpa using h3, Bool.not_false, Bool.true_and]
  refine permOkL_from n hn r _ _ (by rw [List.length_set, hl]) fun y hy0 hy1 => ?_
  have := hs y hy0 hy1
  simp only [rdOf] at this ⊢
  by_cases e : y = x
  ·subst e
   have hlt : y.toNat < seen.length := by omega
   simp [List.getD, hlt]
  ·have hne : x.toNat ≠ y.toNat := by omega
   have h4 : (pre ++ [x]).contains y = pre.contains y := by
    simp [e]
   rw [h4, ← this]
   simp [List.getD, List.getElem?_set_ne hne]
theorem rd_false (n : Nat) (x : Int) : rdOf false (List.replicate n false) x = false := by
 simp only [rdOf, List.getD, List.getElem?_replicate]
 split <;> rfl
theorem impl_PermOk_some (l : List Int) : impl_PermOk.f l = some (permB l) := by
 rw [impl_PermOk.f, permB]
 by_cases h : (l.length : Int) > 24
 ·rw [if_pos h, decide_eq_false (show ¬ l.length ≤ 24 by omega), Bool.false_and]
 ·rw [if_neg h, decide_eq_true (show l.length ≤ 24 by omega), Bool.true_and, permOkL_from l.length (by omega) l [] _ (by simp)]
  intro x h0 h1
  rw [rd_false]
  rfl

end Go.Proofs.Ytlohmpgbjgidpad.Q
namespace Go.Proofs.Ytlohmpgbjgidpad.Q
open Go.RowKit Go.Proofs.Ytlohmpgbjgidpad.P Go.Proofs.YtlohmpgbjgidpadW.PrintWords Go.Proofs.YtlohmpgbjgidpadW.PrintLast
/- Permutations: every number below the length is met; inverse, product, renaming as lists. -/
theorem pig : ∀ (n : Nat) (l : List Int), l.Nodup → (∀ x ∈ l, 0 ≤ x ∧ x < (n : Int)) → l.length ≤ n
 | 0, l, _, h => by
  cases l with
  | nil => simp
  | cons x r => have := h x (by simp); omega
 | n + 1, l, hd, h => by
  by_cases hm : (n : Int) ∈ l
  ·have := pig n (l.erase (n : Int)) (hd.erase _) (fun x hx => by
    have h1 := (hd.mem_erase_iff).1 hx
    have h2 := h x h1.2
    have h3 := h1.1
    omega)
   rw [List.length_erase_of_mem hm] at this
   omega
  ·have := pig n l hd (fun x hx => by
    have h2 := h x hx
    have : x ≠ (n : Int) := fun e => hm (e ▸ hx)
    omega)
   omega
theorem IsPerm.mem {p : List Int} (h : IsPerm p) {j : Int} (h0 : 0 ≤ j) (h1 : j < (p.length : Int)) : j ∈ p := by
 apply Classical.byContradiction
 intro hn
 have := pig p.length (j :: p) (List.nodup_cons.2 ⟨hn, h.nodup⟩) (fun x hx => by
  rcases List.mem_cons.1 hx with e | e
  ·subst e; exact ⟨h0, h1⟩
  ·exact ⟨h.lo x e, h.hi x e⟩)
 simp only [List.length_cons] at this
 omega
theorem IsPerm.get_lo {p : List Int} (h : IsPerm p) {i : Nat} (hi : i < p.length) : 0 ≤ p[i] := h.lo _ (List.getElem_mem hi)
theorem IsPerm.get_hi {p : List Int} (h : IsPerm p) {i : Nat} (hi : i < p.length) : p[i] < (p.length : Int) := h.hi _ (List.getElem_mem hi)
theorem IsPerm.inj {p : List Int} (h : IsPerm p) {i j : Nat} (hi : i < p.length) (hj : j < p.length) (e : p[i] = p[j]) : i = j := by
 have H := List.pairwise_iff_getElem.1 h.nodup
 rcases Nat.lt_trichotomy i j with hlt | he | hgt
 ·exact absurd e (H i j hi hj hlt)
 ·exact he
 ·exact absurd e.symm (H j i hj hi hgt)
/-- The place of a number in a list. -/
def posOf (p : List Int) (j : Int) : Nat := p.idxOf j
theorem posOf_lt {p : List Int} {j : Int} (h : j ∈ p) : posOf p j < p.length := List.idxOf_lt_length_iff.2 h
theorem posOf_get {p : List Int} {j : Int} (h : j ∈ p) : p[posOf p j]'(posOf_lt h) = j := by
 unfold posOf; exact List.getElem_idxOf (posOf_lt h)
theorem IsPerm.posOf_at {p : List Int} (h : IsPerm p) {i : Nat} (hi : i < p.length) : posOf p p[i] = i :=
 h.inj (posOf_lt (List.getElem_mem hi)) hi (posOf_get (List.getElem_mem hi))
/-- The inverse. -/
def invL (p : List Int) : List Int := (List.range p.length).map fun (j : Nat) => (posOf p (j : Int) : Int)
/-- The product: first p, then q. -/
def thenL (p q : List Int) : List Int := p.map (rd q ·)
/-- The renamed permutation. -/
def renL (p q : List Int) : List Int := thenL (invL q) (thenL p q)
theorem invL_length (p : List Int) : (invL p).length = p.length := by simp [invL]
theorem thenL_length (p q : List Int) : (thenL p q).length = p.length := by simp [thenL]
theorem renL_length (p q : List Int) : (renL p q).length = q.length := by simp [renL, thenL, invL]
theorem invL_get (p : List Int) {j : Nat} (h : j < p.length) : (invL p)[j]'(by rw [invL_length]; exact h) = (posOf p (j : Int) : Int) := by simp [invL]
theorem thenL_get (p q : List Int) {j : Nat} (h : j < p.length) : (thenL p q)[j]'(by rw [thenL_length]; exact h) = rd q p[j] := by simp [thenL]
theorem rd_of {q : List Int} {x : Int} (h0 : 0 ≤ x) (h1 : x < (q.length : Int)) : rd q x = q[x.toNat]'(by omega) := by
 obtain ⟨n, rfl⟩ := Int.eq_ofNat_of_zero_le h0
 rw [rdg (by omega)]
 simp
theorem nodup_of_inj {l : List Int} (h : ∀ (i j : Nat) (hi : i < l.length) (hj : j < l.length), l[i] = l[j] → i = j) : l.Nodup := by
 refine List.pairwise_iff_getElem.2 fun i j hi hj hlt e => ?_
 have := h i j hi hj e
 omega
theorem IsPerm.mk' {l : List Int} (hb : ∀ (i : Nat) (hi : i < l.length), 0 ≤ l[i] ∧ l[i] < (l.length : Int)) (h : ∀ (i j : Nat) (hi : i < l.length) (hj : j < l.length), l[i] = l[j] → i = j) : IsPerm l where
 lo := fun x hx => by obtain ⟨i, hi, rfl⟩ := List.getElem_of_mem hx; exact (hb i hi).1
 hi := fun x hx => by obtain ⟨i, hi, rfl⟩ := List.getElem_of_mem hx; exact (hb i hi).2
 nodup := nodup_of_inj h
theorem IsPerm.inv {p : List Int} (h : IsPerm p) : IsPerm (invL p) := by
 refine IsPerm.mk' (fun i hi => ?_) (fun i j hi hj e => ?_)
 ·rw [invL_length] at hi
  rw [invL_get p hi, invL_length]
  have := posOf_lt (h.mem (j := (i : Int)) (by omega) (by omega))
  omega
 ·rw [invL_length] at hi hj
  rw [invL_get p hi, invL_get p hj] at e
  have a := h.mem (j := (i : Int)) (by omega) (by omega)
  have b := h.mem (j := (j : Int)) (by omega) (by omega)
  have e' : posOf p (i : Int) = posOf p (j : Int) := by omega
  have := posOf_get a
  have := posOf_get b
  simp only [e'] at *
  omega
theorem IsPerm.then {p q : List Int} (h : IsPerm p) (hq : IsPerm q) (hl : p.length = q.length) : IsPerm (thenL p q) := by
 refine IsPerm.mk' (fun i hi => ?_) (fun i j hi hj e => ?_)
 ·rw [thenL_length] at hi
  rw [thenL_get p q hi, thenL_length]
  have a := h.get_lo hi
  have b := h.get_hi hi
  rw [rd_of a (by omega)]
  have := hq.get_lo (i := p[i].toNat) (by omega)
  have := hq.get_hi (i := p[i].toNat) (by omega)
  omega
 ·rw [thenL_length] at hi hj
  rw [thenL_get p q hi, thenL_get p q hj] at e
  have a := h.get_lo hi
  have b := h.get_hi hi
  have c := h.get_lo hj
  have d := h.get_hi hj
  rw [rd_of a (by omega), rd_of c (by omega)] at e
  have := hq.inj (by omega) (by omega) e
  exact h.inj hi hj (by omega)

end Go.Proofs.Ytlohmpgbjgidpad.Q
namespace Go.Proofs.Ytlohmpgbjgidpad.Q
open Go.RowKit Go.Proofs.Ytlohmpgbjgidpad.P Go.Proofs.YtlohmpgbjgidpadW.PrintWords Go.Proofs.YtlohmpgbjgidpadW.PrintLast
/- What is met from a square by two permutations: the reference's list, and the program's. -/
def addNew (out : List Int) (x : Int) : List Int := if out.contains x = true then out else out ++ [x]
def reachF (p q : List Int) : Nat → List Int → Nat → List Int
 | 0, out, _ => out
 | d + 1, out, a => if a < out.length then reachF p q d (addNew (addNew out (rd p (rd out (a : Int)))) (rd q (rd out (a : Int)))) (a + 1) else out
theorem wr1 : wrap64 (0 + 1) = 1 := w64 (by omega) (by omega)
theorem wr2 : wrap64 (1 + 1) = 2 := w64 (by omega) (by omega)
/-- The squares in the order in which they are met. -/
def reachL (p q : List Int) (s : Int) : List Int := reachF p q (p.length + 1) [s] 0
/-- A list of different numbers below n. -/
structure Few (n : Nat) (out : List Int) : Prop where
 lo : ∀ x ∈ out, 0 ≤ x
 hi : ∀ x ∈ out, x < (n : Int)
 nodup : out.Nodup
theorem Few.len {n : Nat} {out : List Int} (h : Few n out) : out.length ≤ n := pig n out h.nodup fun x hx => ⟨h.lo x hx, h.hi x hx⟩
theorem Few.perm {n : Nat} {out : List Int} (h : Few n out) (e : out.length = n) : IsPerm out := ⟨h.lo, by rw [e]; exact h.hi, h.nodup⟩
theorem mem_addNew {out : List Int} {x y : Int} : y ∈ addNew out x ↔ y ∈ out ∨ y = x := by
 unfold addNew
 split
 ·rename_i h
  constructor
  ·exact .inl
  ·rintro (h' | rfl)
   ·exact h'
   ·simpa using h
 ·simp
theorem Few.add {n : Nat} {out : List Int} (h : Few n out) {x : Int} (h0 : 0 ≤ x) (h1 : x < (n : Int)) : Few n (addNew out x) where
 lo := fun y hy => (mem_addNew.1 hy).elim (h.lo y) fun e => by rw [e]; exact h0
 hi := fun y hy => (mem_addNew.1 hy).elim (h.hi y) fun e => by rw [e]; exact h1
 nodup := by
  unfold addNew
  split
  ·exact h.nodup
  ·rename_i h'
   rw [List.nodup_append]
   refine ⟨h.nodup, by simp, ?_⟩
   intro a ha b hb e
   simp only [List.mem_singleton] at hb
   subst hb; subst e
   exact h' (by simpa using ha)
theorem addNew_length (out : List Int) (x : Int) : out.length ≤ (addNew out x).length := by
 unfold addNew
 split
 ·omega
 ·simp
theorem addNew_get (out : List Int) (x : Int) {i : Nat} (h : i < out.length) : (addNew out x)[i]'(by have := addNew_length out x; omega) = out[i] := by
 unfold addNew
 split
 ·rfl
 ·rw [List.getElem_append_left h]
theorem rd_perm {p : List Int} (hp : IsPerm p) {x : Int} (h0 : 0 ≤ x) (h1 : x < (p.length : Int)) : 0 ≤ rd p x ∧ rd p x < (p.length : Int) := by
 rw [rd_of h0 h1]
 exact ⟨hp.get_lo _, hp.get_hi _⟩
theorem rd_mem {out : List Int} {a : Nat} (h : a < out.length) : rd out (a : Int) ∈ out := by rw [rdg h]; exact List.getElem_mem h
/-- What the list comes to: closed, and no more than what is met. -/
theorem reachF_all (p q : List Int) (hp : IsPerm p) (hq : IsPerm q) (hl : p.length = q.length) : ∀ (d a : Nat) (out : List Int), p.length + 1 ≤ a + d → a ≤ out.length → Few p.length out →
  (∀ (i : Nat), i < a → rd p (rd out (i : Int)) ∈ out ∧ rd q (rd out (i : Int)) ∈ out) →
  Few p.length (reachF p q d out a) ∧ (∀ x ∈ reachF p q d out a, rd p x ∈ reachF p q d out a ∧ rd q x ∈ reachF p q d out a) ∧ (∀ x ∈ out, x ∈ reachF p q d out a) ∧
  (∀ S : Int → Prop, (∀ x, 0 ≤ x → x < (p.length : Int) → S x → S (rd p x) ∧ S (rd q x)) → (∀ x ∈ out, S x) → ∀ x ∈ reachF p q d out a, S x)
 | 0, a, out, h, ha, hf, hc => by have := hf.len; omega
 | d + 1, a, out, h, ha, hf, hc => by
  rw [reachF]
  by_cases c : a < out.length
  ·rw [if_pos c]
   have m := rd_mem c
   have x0 := hf.lo _ m
   have x1 := hf.hi _ m
   have bp := rd_perm hp x0 x1
   have bq := rd_perm hq x0 (by omega)
   have f1 := hf.add bp.1 bp.2
   have f2 := f1.add bq.1 (by omega)
   have l1 := addNew_length out (rd p (rd out (a : Int)))
   have l2 := addNew_length (addNew out (rd p (rd out (a : Int)))) (rd q (rd out (a : Int)))
   have same : ∀ i : Nat, i < out.length → rd (addNew (addNew out (rd p (rd out (a : Int)))) (rd q (rd out (a : Int)))) (i : Int) = rd out (i : Int) := fun i hi => by
    rw [rdg (xs := addNew _ _) (by omega), addNew_get _ _ (by omega), addNew_get _ _ hi, rdg hi]
   obtain ⟨r1, r2, r3, r4⟩ := reachF_all p q hp hq hl d (a + 1) _ (by omega) (by omega) f2 (fun i hi => by
    rw [same i (by omega)]
    by_cases e : i = a
    ·subst e
     exact ⟨mem_addNew.2 (.inl (mem_addNew.2 (.inr rfl))), mem_addNew.2 (.inr rfl)⟩
    ·have := hc i (by omega)
     exact ⟨mem_addNew.2 (.inl (mem_addNew.2 (.inl this.1))), mem_addNew.2 (.inl (mem_addNew.2 (.inl this.2)))⟩)
   refine ⟨r1, r2, fun x hx => r3 x (mem_addNew.2 (.inl (mem_addNew.2 (.inl hx)))), fun S hS h0 => r4 S hS fun x hx => ?_⟩
   have sx := hS _ x0 x1 (h0 _ m)
   rcases mem_addNew.1 hx with h' | rfl
   ·rcases mem_addNew.1 h' with h'' | rfl
    ·exact h0 x h''
    ·exact sx.1
   ·exact sx.2
  ·rw [if_neg c]
   refine ⟨hf, fun x hx => ?_, fun x hx => hx, fun S hS h0 => h0⟩
   obtain ⟨i, hi, rfl⟩ := List.getElem_of_mem hx
   have := hc i (by omega)
   rwa [rdg hi] at this
theorem few_one {n : Nat} {s : Int} (h0 : 0 ≤ s) (h1 : s < (n : Int)) : Few n [s] := ⟨by simpa using h0, by simpa using h1, by simp⟩
theorem reachL_all (p q : List Int) (hp : IsPerm p) (hq : IsPerm q) (hl : p.length = q.length) {s : Int} (h0 : 0 ≤ s) (h1 : s < (p.length : Int)) :
  Few p.length (reachL p q s) ∧ (∀ x ∈ reachL p q s, rd p x ∈ reachL p q s ∧ rd q x ∈ reachL p q s) ∧ s ∈ reachL p q s ∧
  (∀ S : Int → Prop, (∀ x, 0 ≤ x → x < (p.length : Int) → S x → S (rd p x) ∧ S (rd q x)) → S s → ∀ x ∈ reachL p q s, S x) := by
 have := reachF_all p q hp hq hl (p.length + 1) 0 [s] (by omega) (by simp) (few_one h0 h1) (fun i hi => by omega)
 exact ⟨this.1, this.2.1, this.2.2.1 s (by simp), fun S hS hs => this.2.2.2 S hS (by simpa using hs)⟩
theorem spec_reach_loop (p q : List Int) (hp : IsPerm p) (hq : IsPerm q) (hl : p.length = q.length) (hn : p.length ≤ 24) : ∀ (d a : Nat) (out : List Int), p.length + 1 ≤ a + d → a ≤ out.length → Few p.length out →
  Ev (fun k => spec_l02Reach.l0 k p q out (a : Int)) (reachF p q d out a) := by
 intro d
 induction d with
 | zero => intro a out h ha hf; have := hf.len; omega
 | succ d ih =>
  intro a out h ha hf
  have len := hf.len
  refine Ev.step (fun k => by rw [spec_l02Reach.l0]) ?_
  rw [reachF]
  by_cases c : a < out.length
  ·rw [if_pos c]
   have m := rd_mem c
   have x0 := hf.lo _ m
   have x1 := hf.hi _ m
   have bp := rd_perm hp x0 x1
   have bq := rd_perm hq x0 (by omega)
   have f1 := hf.add bp.1 bp.2
   have f2 := f1.add bq.1 (by omega)
   have l1 := addNew_length out (rd p (rd out (a : Int)))
   have l2 := addNew_length (addNew out (rd p (rd out (a : Int)))) (rd q (rd out (a : Int)))
   have n1 := f1.len
   have n2 := f2.len
   have next := ih (a + 1) _ (by omega) (by omega) f2
   refine Ev.pos (by omega) (Ev.pos (by omega) (Ev.pos x0 (Ev.pos x1 (Ev.pos (by omega) (Ev.plain rfl ?_)))))
   generalize rd p (rd out (a : Int)) = x at *
   generalize rd q (rd out (a : Int)) = y at *
   have r0 : rd [x, y] 0 = x := rfl
   have r1 : rd [x, y] 1 = y := rfl
   have tail : ∀ o : List Int, o.length ≤ 24 → addNew o y = addNew (addNew out x) y → Ev (fun k => spec_l02Reach.l1 k p q o (a : Int) [x, y] 2 1) (reachF p q d (addNew (addNew out x) y) (a + 1)) := by
    intro o ho e
    refine Ev.step (fun k => by rw [spec_l02Reach.l1]) (Ev.pos (by omega) (Ev.pos (by omega) (Ev.pos (by simp) ?_)))
    rw [r1]
    refine Ev.bind (spec_has_ev o y (by omega)) ?_
    by_cases b : o.contains y = true
    ·refine Ev.pos b (Ev.step (fun k => by rw [spec_l02Reach.l1]) (Ev.neg (by rw [wr2]; omega) ?_))
     rw [w64n (by omega)]
     rw [addNew, if_pos b] at e
     rw [e]; exact next
    ·refine Ev.neg b (Ev.pos (by omega) (Ev.step (fun k => by rw [spec_l02Reach.l1]) (Ev.neg (by rw [wr2]; omega) ?_)))
     rw [w64n (by omega)]
     rw [addNew, if_neg b] at e
     rw [e]; exact next
   refine Ev.step (fun k => by rw [spec_l02Reach.l1]) (Ev.pos (by simp) (Ev.pos (by omega) (Ev.pos (by simp) ?_)))
   rw [r0, wr1]
   refine Ev.bind (spec_has_ev out x (by omega)) ?_
   by_cases b : out.contains x = true
   ·refine Ev.pos b ?_
    exact tail out (by omega) (by rw [show addNew out x = out by rw [addNew, if_pos b]])
   ·refine Ev.neg b (Ev.pos (by omega) ?_)
    have e : addNew out x = out ++ [x] := by rw [addNew, if_neg b]
    rw [← e]
    exact tail _ (by omega) rfl
  ·rw [if_neg c]
   exact Ev.neg (by omega) (Ev.now _)
theorem spec_l02Reach_ev (p q : List Int) (hp : IsPerm p) (hq : IsPerm q) (hl : p.length = q.length) (hn : p.length ≤ 24) {s : Int} (h0 : 0 ≤ s) (h1 : s < (p.length : Int)) : Ev (fun k => spec_l02Reach.f k p q s) (reachL p q s) :=
 Ev.same (fun k => by rw [spec_l02Reach.f]; rfl) (spec_reach_loop p q hp hq hl hn (p.length + 1) 0 [s] (by omega) (by simp) (few_one h0 h1))

end Go.Proofs.Ytlohmpgbjgidpad.Q
namespace Go.Proofs.Ytlohmpgbjgidpad.Q
open Go.RowKit Go.Proofs.Ytlohmpgbjgidpad.P Go.Proofs.YtlohmpgbjgidpadW.PrintWords Go.Proofs.YtlohmpgbjgidpadW.PrintLast
/- The two IsTransitive functions tell whether every square is met from the first one. -/
theorem seen_set {seen : List Bool} {out : List Int} {n : Nat} (hl : seen.length = n) (hs : ∀ x : Int, 0 ≤ x → x < (n : Int) → rdOf false seen x = out.contains x) {y : Int} (h0 : 0 ≤ y) (h1 : y < (n : Int)) :
  ∀ x : Int, 0 ≤ x → x < (n : Int) → rdOf false (seen.set y.toNat true) x = (out ++ [y]).contains x := by
 intro x x0 x1
 have := hs x x0 x1
 simp only [rdOf] at this ⊢
 by_cases e : x = y
 ·subst e
  have hlt : x.toNat < seen.length := by omega
  simp [List.getD, hlt]
 ·have hne : y.toNat ≠ x.toNat := by omega
  have h4 : (out ++ [y]).contains x = out.contains x := by simp [e]
  rw [h4, ← this]
  simp [List.getD, List.getElem?_set_ne hne]
theorem impl_trans_loop (p q : List Int) (hp : IsPerm p) (hq : IsPerm q) (hl : p.length = q.length) (hn : p.length ≤ 24) : ∀ (d a : Nat) (out : List Int) (seen : List Bool), p.length + 1 ≤ a + d → a ≤ out.length → Few p.length out →
  seen.length = p.length → (∀ x : Int, 0 ≤ x → x < (p.length : Int) → rdOf false seen x = out.contains x) →
  Ev (fun k => impl_IsTransitive.l0 k p q seen out (a : Int)) (decide ((reachF p q d out a).length = p.length)) := by
 intro d
 induction d with
 | zero => intro a out seen h ha hf; have := hf.len; omega
 | succ d ih =>
  intro a out seen h ha hf sl hs
  have len := hf.len
  refine Ev.step (fun k => by rw [impl_IsTransitive.l0]) ?_
  rw [reachF]
  by_cases c : a < out.length
  ·rw [if_pos c]
   have m := rd_mem c
   have x0 := hf.lo _ m
   have x1 := hf.hi _ m
   have bp := rd_perm hp x0 x1
   have bq := rd_perm hq x0 (by omega)
   have f1 := hf.add bp.1 bp.2
   have f2 := f1.add bq.1 (by omega)
   have l1 := addNew_length out (rd p (rd out (a : Int)))
   have l2 := addNew_length (addNew out (rd p (rd out (a : Int)))) (rd q (rd out (a : Int)))
   have n1 := f1.len
   have n2 := f2.len
   have next := fun s => ih (a + 1) _ s (by omega) (by omega) f2
   refine Ev.pos (by omega) (Ev.pos (by omega) (Ev.pos x0 (Ev.pos x1 (Ev.pos (by omega) (Ev.plain rfl ?_)))))
   rw [← hl] at bq
   generalize rd p (rd out (a : Int)) = x at *
   generalize rd q (rd out (a : Int)) = y at *
   have r0 : rd [x, y] 0 = x := rfl
   have r1 : rd [x, y] 1 = y := rfl
   have tail : ∀ (o : List Int) (s : List Bool), o.length ≤ 24 → addNew o y = addNew (addNew out x) y → s.length = p.length → (∀ x : Int, 0 ≤ x → x < (p.length : Int) → rdOf false s x = o.contains x) →
     Ev (fun k => impl_IsTransitive.l1 k p q s o (a : Int) [x, y] 2 1) (decide ((reachF p q d (addNew (addNew out x) y) (a + 1)).length = p.length)) := by
    intro o s ho e hsl hso
    refine Ev.step (fun k => by rw [impl_IsTransitive.l1]) (Ev.pos (by omega) (Ev.pos (by omega) (Ev.pos (by simp) ?_)))
    rw [r1]
    refine Ev.pos (by omega) (Ev.pos (by omega) ?_)
    rw [hso y bq.1 bq.2]
    by_cases b : o.contains y = true
    ·refine Ev.pos b (Ev.step (fun k => by rw [impl_IsTransitive.l1]) (Ev.neg (by rw [wr2]; omega) ?_))
     rw [w64n (by omega)]
     rw [addNew, if_pos b] at e
     rw [← e] at next
     rw [← e]
     exact next s hsl hso
    ·refine Ev.neg b (Ev.pos (by omega) (Ev.step (fun k => by rw [impl_IsTransitive.l1]) (Ev.neg (by rw [wr2]; omega) ?_)))
     rw [w64n (by omega)]
     rw [addNew, if_neg b] at e
     rw [← e] at next
     rw [← e]
     exact next _ (by rw [List.length_set, hsl]) (seen_set hsl hso bq.1 bq.2)
   refine Ev.step (fun k => by rw [impl_IsTransitive.l1]) (Ev.pos (by simp) (Ev.pos (by omega) (Ev.pos (by simp) ?_)))
   rw [r0, wr1]
   refine Ev.pos (by omega) (Ev.pos (by omega) ?_)
   rw [hs x bp.1 bp.2]
   by_cases b : out.contains x = true
   ·refine Ev.pos b ?_
    exact tail out seen (by omega) (by rw [show addNew out x = out by rw [addNew, if_pos b]]) sl hs
   ·refine Ev.neg b (Ev.pos (by omega) ?_)
    have e : addNew out x = out ++ [x] := by rw [addNew, if_neg b]
    have ss := seen_set sl hs bp.1 bp.2
    rw [← e] at ss ⊢
    exact tail _ _ (by omega) rfl (by rw [List.length_set, sl]) ss
  ·rw [if_neg c]
   refine Ev.neg (by omega) ?_
   rw [show ((out.length : Int) == (p.length : Int)) = decide (out.length = p.length) by rw [Bool.eq_iff_iff]; simp; omega]
   exact Ev.now _
/-- What IsTransitive returns. -/
def transB (p q : List Int) : Bool := permB p && (permB q && (decide (p.length = q.length) && (decide (0 < p.length) && decide ((reachL p q 0).length = p.length))))
theorem spec_IsTransitive_ev (p q : List Int) (hp : p.length < 9223372036854775807) (hq : q.length < 9223372036854775807) : Ev (fun k => spec_IsTransitive.f k p q) (transB p q) := by
 refine Ev.same (fun k => by rw [spec_IsTransitive.f]) (Ev.bind (spec_PermOk_ev p hp) ?_)
 unfold transB
 by_cases h : permB p = true
 ·refine Ev.pos h (Ev.bind (spec_PermOk_ev q hq) ?_)
  rw [h, Bool.true_and]
  by_cases h' : permB q = true
  ·rw [h', Bool.true_and]
   refine Ev.pos rfl ?_
   by_cases e : p.length = q.length
   ·rw [decide_eq_true e, Bool.true_and]
    refine Ev.pos (by omega) ?_
    by_cases z : 0 < p.length
    ·rw [decide_eq_true z, Bool.true_and]
     have a := (permB_iff p).1 h
     have b := (permB_iff q).1 h'
     refine Ev.pos (by omega) (Ev.bind (spec_l02Reach_ev p q a.2 b.2 e a.1 (s := 0) (by omega) (by omega)) ?_)
     rw [show (((reachL p q 0).length : Int) == (p.length : Int)) = decide ((reachL p q 0).length = p.length) by rw [Bool.eq_iff_iff]; simp; omega]
     exact Ev.now _
    ·rw [decide_eq_false z, Bool.false_and]
     exact Ev.neg (by omega) (Ev.now _)
   ·rw [decide_eq_false e, Bool.false_and]
    exact Ev.neg (by omega) (Ev.now _)
  ·rw [show permB q = false by simpa using h', Bool.false_and]
   exact Ev.neg (by simp) (Ev.now _)
 ·rw [show permB p = false by simpa using h, Bool.false_and]
  exact Ev.neg (by simp) (Ev.now _)
theorem impl_IsTransitive_ev (p q : List Int) : Ev (fun k => impl_IsTransitive.f k p q) (transB p q) := by
 have no : Ev (fun k => impl_IsTransitive.j0 k p q true) false := Ev.step (fun k => by rw [impl_IsTransitive.j0]) (Ev.pos rfl (Ev.now _))
 refine Ev.same (fun k => by rw [impl_IsTransitive.f]) (Ev.plain (impl_PermOk_some p) ?_)
 unfold transB
 by_cases h : permB p = true
 ·refine Ev.pos h (Ev.plain (impl_PermOk_some q) ?_)
  rw [h, Bool.true_and]
  by_cases h' : permB q = true
  ·rw [h', Bool.true_and]
   refine Ev.pos rfl ?_
   by_cases e : p.length = q.length
   ·rw [decide_eq_true e, Bool.true_and]
    refine Ev.pos (by omega) ?_
    by_cases z : 0 < p.length
    ·rw [decide_eq_true z, Bool.true_and, show ((p.length : Int) == 0) = false by rw [beq_eq_false_iff_ne]; omega]
     have a := (permB_iff p).1 h
     have b := (permB_iff q).1 h'
     refine Ev.step (fun k => by rw [impl_IsTransitive.j0]) (Ev.neg (by simp) (Ev.pos (by omega) (Ev.pos (by omega) (Ev.plain rfl ?_))))
     refine Ev.pos (by simp; omega) ?_
     refine impl_trans_loop p q a.2 b.2 e a.1 (p.length + 1) 0 [0] _ (by omega) (by simp) (few_one (by omega) (by omega)) (by simp) ?_
     have := seen_set (seen := List.replicate p.length false) (out := []) (n := p.length) (by simp) (fun x _ _ => by rw [rd_false]; rfl) (y := 0) (by omega) (by omega)
     simpa using this
    ·rw [decide_eq_false z, Bool.false_and, show ((p.length : Int) == 0) = true by rw [beq_iff_eq]; omega]
     exact no
   ·rw [decide_eq_false e, Bool.false_and]
    exact Ev.neg (by omega) no
  ·rw [show permB q = false by simpa using h', Bool.false_and]
   exact Ev.neg (by simp) no
 ·rw [show permB p = false by simpa using h, Bool.false_and]
  exact Ev.neg (by simp) no

end Go.Proofs.Ytlohmpgbjgidpad.Q
namespace Go.Proofs.Ytlohmpgbjgidpad.Q
open Go.RowKit Go.Proofs.Ytlohmpgbjgidpad.P Go.Proofs.YtlohmpgbjgidpadW.PrintWords Go.Proofs.YtlohmpgbjgidpadW.PrintLast
/- Surfaces: two lists; sizes, copies, comparisons. -/
theorem sz_some (l : List Int) (a : Int) (h0 : 0 ≤ a) (h1 : a ≤ 1048576) (hn : l.length ≤ 9223372036854775807) : laws_szIntS.f l a = some (if a < (l.length : Int) then -1 else a - (l.length : Int)) := by
 rw [laws_szIntS.f, w64 (by omega) (by omega)]
 by_cases c : a < (l.length : Int)
 ·rw [if_pos (by omega), if_pos c]
 ·rw [if_neg (by omega), if_neg c]
/-- The two lists are within what is left of the bound. -/
theorem szS_big (r u : List Int) (a : Int) (h0 : 0 ≤ a) (h1 : a ≤ 1048576) (hr : r.length ≤ 9223372036854775807) (hu : u.length ≤ 9223372036854775807) (h : a < (r.length : Int) + (u.length : Int)) : laws_szSurface.f r u a = some (-1) := by
 rw [laws_szSurface.f, sz_some r a h0 h1 hr]
 by_cases c : a < (r.length : Int)
 ·rw [if_pos c, Option.bind_some, if_pos (by omega)]
 ·rw [if_neg c, Option.bind_some, if_neg (by omega), sz_some u _ (by omega) (by omega) hu, if_pos (by omega), Option.bind_some, if_pos (by omega)]
theorem szS_small (r u : List Int) (a : Int) (h1 : a ≤ 1048576) (h : (r.length : Int) + (u.length : Int) ≤ a) : laws_szSurface.f r u a = some (a - (r.length : Int) - (u.length : Int)) := by
 rw [laws_szSurface.f, sz_some r a (by omega) h1 (by omega), if_neg (by omega), Option.bind_some, if_neg (by omega), sz_some u _ (by omega) (by omega) (by omega), if_neg (by omega), Option.bind_some, if_neg (by omega)]
theorem toSurface_ev (r u : List Int) (hr : r.length ≤ 35184372088832) (hu : u.length ≤ 35184372088832) : Ev (fun k => laws_toSurface.f k r u) (r, u) :=
 Ev.same (fun k => by rw [laws_toSurface.f]) (Ev.bind (toIntS_ev r hr) (Ev.bind (toIntS_ev u hu) (Ev.now (r, u))))
theorem eqSurface_self (r u : List Int) (hr : r.length < 9223372036854775807) (hu : u.length < 9223372036854775807) : Ev (fun k => laws_eqSurface.f k r u r u) true :=
 Ev.same (fun k => by rw [laws_eqSurface.f]) (Ev.bind (eqIntS_self r hr) (Ev.pos rfl (Ev.bind (eqIntS_self u hu) (Ev.pos rfl (Ev.now _)))))

end Go.Proofs.Ytlohmpgbjgidpad.Q
namespace Go.Proofs.Ytlohmpgbjgidpad.Q
open Go.RowKit Go.Proofs.Ytlohmpgbjgidpad.P Go.Proofs.YtlohmpgbjgidpadW.PrintWords Go.Proofs.YtlohmpgbjgidpadW.PrintLast
/- The two SurfaceOk functions. -/
theorem spec_SurfaceOk_ev (r u : List Int) (hr : r.length < 9223372036854775807) (hu : u.length < 9223372036854775807) : Ev (fun k => spec_SurfaceOk.f k r u) (transB r u) :=
 Ev.same (fun k => by rw [spec_SurfaceOk.f]) (Ev.bind (spec_IsTransitive_ev r u hr hu) (Ev.now _))
theorem impl_SurfaceOk_ev (r u : List Int) : Ev (fun k => impl_SurfaceOk.f k r u) (transB r u) :=
 Ev.same (fun k => by rw [impl_SurfaceOk.f]) (Ev.bind (impl_IsTransitive_ev r u) (Ev.now _))
/-- What is known of a valid surface. -/
structure IsSurf (r u : List Int) : Prop where
 right : IsPerm r
 up : IsPerm u
 same : r.length = u.length
 pos : 0 < r.length
 le : r.length ≤ 24
 all : (reachL r u 0).length = r.length
theorem transB_iff (r u : List Int) : transB r u = true ↔ IsSurf r u := by
 unfold transB
 simp only [Bool.and_eq_true, decide_eq_true_eq, permB_iff]
 exact ⟨fun ⟨⟨a, b⟩, ⟨_, d⟩, e, f, g⟩ => ⟨b, d, e, f, a, g⟩, fun ⟨a, b, c, d, e, f⟩ => ⟨⟨e, a⟩, ⟨by omega, b⟩, c, d, f⟩⟩

end Go.Proofs.Ytlohmpgbjgidpad.Q
namespace Go.Proofs.Ytlohmpgbjgidpad.Q
open Go.RowKit Go.Proofs.Ytlohmpgbjgidpad.P Go.Proofs.YtlohmpgbjgidpadW.PrintWords Go.Proofs.YtlohmpgbjgidpadW.PrintLast
/- The two WordOk functions. -/
def letterP (_ : Nat) (c : Int) : Bool := decide (c = 84) || (decide (c = 116) || (decide (c = 83) || decide (c = 115)))

end Go.Proofs.Ytlohmpgbjgidpad.Q
namespace Go.Proofs.Ytlohmpgbjgidpad.Q
open Go.RowKit Go.Proofs.Ytlohmpgbjgidpad.P Go.Proofs.YtlohmpgbjgidpadW.PrintWords Go.Proofs.YtlohmpgbjgidpadW.PrintLast
/- The two SameList functions tell whether two lists are equal. -/
theorem spec_SameList_loop (xs ys : List Int) (hl : xs.length = ys.length) (hn : xs.length < 9223372036854775807) : ∀ (d : Nat) (i : Nat), i + d = xs.length →
  Ev (fun k => spec_SameList.l0 k ys xs (xs.length : Int) i) (decide (xs.drop i = ys.drop i)) := by
 intro d
 induction d with
 | zero =>
  intro i h
  refine Ev.step (fun k => by rw [spec_SameList.l0]) ?_
  repeat (first | refine Ev.pos (by omega) ?_ | refine Ev.neg (by omega) ?_)
  rw [List.drop_of_length_le (by omega), List.drop_of_length_le (by omega)]
  exact Ev.now _
 | succ d ih =>
  intro i h
  refine Ev.step (fun k => by rw [spec_SameList.l0]) ?_
  repeat (first | refine Ev.pos (by omega) ?_ | refine Ev.neg (by omega) ?_)
  rw [rdg (by omega), rdg (by omega), List.drop_eq_getElem_cons (l := xs) (i := i) (by omega), List.drop_eq_getElem_cons (l := ys) (i := i) (by omega)]
  by_cases e : xs[i] = ys[i]
  ·refine Ev.pos e ?_
   rw [w64n (by omega), decide_eq_decide.2 (show _ ↔ xs.drop (i + 1) = ys.drop (i + 1) from ⟨fun h => (List.cons.inj h).2, fun h => by rw [e, h]⟩)]
   exact ih (i + 1) (by omega)
  ·refine Ev.neg e ?_
   rw [decide_eq_false fun h => e (List.cons.inj h).1]
   exact Ev.now _
theorem spec_SameList_ev (xs ys : List Int) (hn : xs.length < 9223372036854775807) : Ev (fun k => spec_SameList.f k xs ys) (decide (xs = ys)) := by
 refine Ev.same (fun k => by rw [spec_SameList.f]) ?_
 by_cases h : xs.length = ys.length
 ·refine Ev.pos (by omega) ?_
  simpa using spec_SameList_loop xs ys h hn xs.length 0 (by omega)
 ·refine Ev.neg (by omega) ?_
  rw [decide_eq_false fun e => h (by rw [e])]
  exact Ev.now _
theorem slices_Equal_loop (xs ys : List Int) (hl : xs.length = ys.length) (hn : xs.length < 9223372036854775807) : ∀ (d : Nat) (i : Nat), i + d = xs.length →
  Ev (fun k => slices_Equal_int_int.l0 k xs ys (xs.length : Int) i) (decide (xs.drop i = ys.drop i)) := by
 intro d
 induction d with
 | zero =>
  intro i h
  refine Ev.step (fun k => by rw [slices_Equal_int_int.l0]) ?_
  repeat (first | refine Ev.pos (by omega) ?_ | refine Ev.neg (by omega) ?_)
  rw [List.drop_of_length_le (by omega), List.drop_of_length_le (by omega)]
  exact Ev.now _
 | succ d ih =>
  intro i h
  refine Ev.step (fun k => by rw [slices_Equal_int_int.l0]) ?_
  repeat (first | refine Ev.pos (by omega) ?_ | refine Ev.neg (by omega) ?_)
  rw [rdg (by omega), rdg (by omega), List.drop_eq_getElem_cons (l := xs) (i := i) (by omega), List.drop_eq_getElem_cons (l := ys) (i := i) (by omega)]
  by_cases e : xs[i] = ys[i]
  ·refine Ev.pos e ?_
   rw [w64n (by omega), decide_eq_decide.2 (show _ ↔ xs.drop (i + 1) = ys.drop (i + 1) from ⟨fun h => (List.cons.inj h).2, fun h => by rw [e, h]⟩)]
   exact ih (i + 1) (by omega)
  ·refine Ev.neg e ?_
   rw [decide_eq_false fun h => e (List.cons.inj h).1]
   exact Ev.now _
theorem slices_Equal_ev (xs ys : List Int) (hn : xs.length < 9223372036854775807) : Ev (fun k => slices_Equal_int_int.f k xs ys) (decide (xs = ys)) := by
 refine Ev.same (fun k => by rw [slices_Equal_int_int.f]) ?_
 by_cases h : xs.length = ys.length
 ·refine Ev.pos (by omega) ?_
  simpa using slices_Equal_loop xs ys h hn xs.length 0 (by omega)
 ·refine Ev.neg (by omega) ?_
  rw [decide_eq_false fun e => h (by rw [e])]
  exact Ev.now _
theorem impl_SameList_ev (xs ys : List Int) (hn : xs.length < 9223372036854775807) : Ev (fun k => impl_SameList.f k xs ys) (decide (xs = ys)) := by
 refine Ev.same (fun k => by rw [impl_SameList.f]) ?_
 exact Ev.bind (slices_Equal_ev xs ys hn) (Ev.now _)

end Go.Proofs.Ytlohmpgbjgidpad.Q
namespace Go.Proofs.Ytlohmpgbjgidpad.Q
open Go.RowKit Go.Proofs.Ytlohmpgbjgidpad.P Go.Proofs.YtlohmpgbjgidpadW.PrintWords Go.Proofs.YtlohmpgbjgidpadW.PrintLast
/- The two SameSurface functions. -/
def sameB (r u r' u' : List Int) : Bool := decide (r = r') && decide (u = u')
theorem spec_SameSurface_ev (r u r' u' : List Int) (hr : r.length < 9223372036854775807) (hu : u.length < 9223372036854775807) : Ev (fun k => spec_SameSurface.f k r u r' u') (sameB r u r' u') := by
 refine Ev.same (fun k => by rw [spec_SameSurface.f]) (Ev.bind (spec_SameList_ev r r' hr) ?_)
 unfold sameB
 by_cases e : r = r'
 ·rw [decide_eq_true e, Bool.true_and]
  exact Ev.pos rfl (Ev.bind (spec_SameList_ev u u' hu) (Ev.now _))
 ·rw [decide_eq_false e, Bool.false_and]
  exact Ev.neg (by simp) (Ev.now _)
theorem impl_SameSurface_ev (r u r' u' : List Int) (hr : r.length < 9223372036854775807) (hu : u.length < 9223372036854775807) : Ev (fun k => impl_SameSurface.f k r u r' u') (sameB r u r' u') := by
 refine Ev.same (fun k => by rw [impl_SameSurface.f]) (Ev.bind (impl_SameList_ev r r' hr) ?_)
 unfold sameB
 by_cases e : r = r'
 ·rw [decide_eq_true e, Bool.true_and]
  exact Ev.pos rfl (Ev.bind (impl_SameList_ev u u' hu) (Ev.now _))
 ·rw [decide_eq_false e, Bool.false_and]
  exact Ev.neg (by simp) (Ev.now _)

end Go.Proofs.Ytlohmpgbjgidpad.Q
namespace Go.Proofs.Ytlohmpgbjgidpad.Q
open Go.RowKit Go.Proofs.Ytlohmpgbjgidpad.P Go.Proofs.YtlohmpgbjgidpadW.PrintWords Go.Proofs.YtlohmpgbjgidpadW.PrintLast
/- What the four moves make of a valid surface. -/
def turnV (r u : List Int) : List Int × List Int := (invL u, r)
def unturnV (r u : List Int) : List Int × List Int := (u, invL r)
def shearV (r u : List Int) : List Int × List Int := (r, thenL (invL r) u)
def unshearV (r u : List Int) : List Int × List Int := (r, thenL r u)
/-- What a move returns: nothing for what is no surface. -/
def actB (v : List Int → List Int → List Int × List Int) (r u : List Int) : List Int × List Int × Bool := if transB r u = true then ((v r u).1, (v r u).2, true) else ([], [], false)
theorem IsSurf.permR {r u : List Int} (h : IsSurf r u) : permB r = true := (permB_iff r).2 ⟨h.le, h.right⟩
theorem IsSurf.permU {r u : List Int} (h : IsSurf r u) : permB u = true := (permB_iff u).2 ⟨by have := h.same; have := h.le; omega, h.up⟩
theorem IsSurf.permI {r u : List Int} (h : IsSurf r u) : permB (invL r) = true := (permB_iff _).2 ⟨by rw [invL_length]; exact h.le, h.right.inv⟩
theorem IsSurf.leU {r u : List Int} (h : IsSurf r u) : u.length ≤ 24 := by have := h.same; have := h.le; omega
theorem perm_in {p q : List Int} (h : IsPerm p) (hl : p.length = q.length) : ∀ (i : Nat) (hi : i < p.length), 0 ≤ p[i] ∧ p[i] < (q.length : Int) := fun i hi => ⟨h.get_lo hi, by have := h.get_hi hi; omega⟩

end Go.Proofs.Ytlohmpgbjgidpad.Q
namespace Go.Proofs.Ytlohmpgbjgidpad.Q
open Go.RowKit Go.Proofs.Ytlohmpgbjgidpad.P Go.Proofs.YtlohmpgbjgidpadW.PrintWords Go.Proofs.YtlohmpgbjgidpadW.PrintLast
/- From every square of a valid surface all squares are met. -/
theorem sub_len : ∀ (l m : List Int), l.Nodup → (∀ x ∈ l, x ∈ m) → l.length ≤ m.length
 | [], m, _, _ => by simp
 | x :: r, m, hd, hs => by
  have hx := hs x (by simp)
  have := sub_len r (m.erase x) (List.nodup_cons.1 hd).2 (fun y hy => by
   have hne : y ≠ x := fun e => (List.nodup_cons.1 hd).1 (e ▸ hy)
   exact (List.mem_erase_of_ne hne).2 (hs y (by simp [hy])))
  rw [List.length_erase_of_mem hx] at this
  have : 0 < m.length := List.length_pos_of_mem hx
  simp only [List.length_cons]
  omega
theorem nodup_map {l : List Int} {f : Int → Int} (h : l.Nodup) (hf : ∀ x ∈ l, ∀ y ∈ l, f x = f y → x = y) : (l.map f).Nodup := by
 apply nodup_of_inj
 intro i j hi hj e
 rw [List.length_map] at hi hj
 rw [List.getElem_map, List.getElem_map] at e
 have e2 := hf _ (List.getElem_mem hi) _ (List.getElem_mem hj) e
 have H := List.pairwise_iff_getElem.1 h
 rcases Nat.lt_trichotomy i j with hlt | he | hgt
 ·exact absurd e2 (H i j hi hj hlt)
 ·exact he
 ·exact absurd e2.symm (H j i hj hi hgt)
/-- A map that is one to one on a list and stays in it meets all of it. -/
theorem onto {l : List Int} {f : Int → Int} (h : l.Nodup) (hf : ∀ x ∈ l, ∀ y ∈ l, f x = f y → x = y) (hm : ∀ x ∈ l, f x ∈ l) {y : Int} (hy : y ∈ l) : ∃ x ∈ l, f x = y := by
 apply Classical.byContradiction
 intro hn
 have hd : (y :: l.map f).Nodup := List.nodup_cons.2 ⟨fun hc => by obtain ⟨x, hx, e⟩ := List.mem_map.1 hc; exact hn ⟨x, hx, e⟩, nodup_map h hf⟩
 have := sub_len (y :: l.map f) l hd (fun z hz => by
  rcases List.mem_cons.1 hz with rfl | hz
  ·exact hy
  ·obtain ⟨x, hx, rfl⟩ := List.mem_map.1 hz; exact hm x hx)
 simp only [List.length_cons, List.length_map] at this
 omega
theorem rd_inj {p : List Int} (hp : IsPerm p) {x y : Int} (x0 : 0 ≤ x) (x1 : x < (p.length : Int)) (y0 : 0 ≤ y) (y1 : y < (p.length : Int)) (e : rd p x = rd p y) : x = y := by
 rw [rd_of x0 x1, rd_of y0 y1] at e
 have := hp.inj (by omega) (by omega) e
 omega
theorem reach_full {r u : List Int} (h : IsSurf r u) {s : Int} (h0 : 0 ≤ s) (h1 : s < (r.length : Int)) : (reachL r u s).length = r.length := by
 obtain ⟨f0, c0, m0, l0⟩ := reachL_all r u h.right h.up h.same (s := 0) (by omega) (by have := h.pos; omega)
 obtain ⟨f1, c1, m1, l1⟩ := reachL_all r u h.right h.up h.same h0 h1
 have all0 : ∀ x : Int, 0 ≤ x → x < (r.length : Int) → x ∈ reachL r u 0 := fun x x0 x1 => (f0.perm h.all).mem x0 (by rw [h.all]; exact x1)
 have hle := f1.len
 by_cases z : (0 : Int) ∈ reachL r u s
 ·have sub := l0 (· ∈ reachL r u s) (fun x _ _ hx => c1 x hx) z
  have := sub_len (reachL r u 0) (reachL r u s) f0.nodup sub
  have := h.all
  omega
 ·have sub := l0 (· ∉ reachL r u s) (fun x x0 x1 hx => by
   constructor
   ·intro hc
    obtain ⟨y, hy, e⟩ := onto f1.nodup (f := rd r) (fun a ha b hb e => rd_inj h.right (f1.lo a ha) (f1.hi a ha) (f1.lo b hb) (f1.hi b hb) e) (fun a ha => (c1 a ha).1) hc
    exact hx (rd_inj h.right (f1.lo y hy) (f1.hi y hy) x0 x1 e ▸ hy)
   ·intro hc
    have hs := h.same
    obtain ⟨y, hy, e⟩ := onto f1.nodup (f := rd u) (fun a ha b hb e => rd_inj h.up (f1.lo a ha) (by have := f1.hi a ha; omega) (f1.lo b hb) (by have := f1.hi b hb; omega) e) (fun a ha => (c1 a ha).2) hc
    exact hx (rd_inj h.up (f1.lo y hy) (by have := f1.hi y hy; omega) x0 (by omega) e ▸ hy)) z
  exact absurd m1 (sub s (all0 s h0 h1))
theorem reach_perm {r u : List Int} (h : IsSurf r u) {s : Int} (h0 : 0 ≤ s) (h1 : s < (r.length : Int)) : IsPerm (reachL r u s) :=
 (reachL_all r u h.right h.up h.same h0 h1).1.perm (reach_full h h0 h1)
/-- The names from a square. -/
def namesL (r u : List Int) (s : Int) : List Int := invL (reachL r u s)
theorem namesL_perm {r u : List Int} (h : IsSurf r u) {s : Int} (h0 : 0 ≤ s) (h1 : s < (r.length : Int)) : IsPerm (namesL r u s) := (reach_perm h h0 h1).inv
theorem namesL_length {r u : List Int} (h : IsSurf r u) {s : Int} (h0 : 0 ≤ s) (h1 : s < (r.length : Int)) : (namesL r u s).length = r.length := by rw [namesL, invL_length, reach_full h h0 h1]
def namesB (r u : List Int) (s : Int) : List Int := if transB r u = true ∧ 0 ≤ s ∧ s < (r.length : Int) then namesL r u s else []

end Go.Proofs.Ytlohmpgbjgidpad.Q
namespace Go.Proofs.Ytlohmpgbjgidpad.Q
open Go.RowKit Go.Proofs.Ytlohmpgbjgidpad.P Go.Proofs.YtlohmpgbjgidpadW.PrintWords Go.Proofs.YtlohmpgbjgidpadW.PrintLast
/- Each move makes a valid surface of a valid one. -/
theorem rd_then {p q : List Int} {x : Int} (h0 : 0 ≤ x) (h1 : x < (p.length : Int)) : rd (thenL p q) x = rd q (rd p x) := by
 rw [rd_of (q := thenL p q) h0 (by rw [thenL_length]; exact h1), thenL_get p q (by omega), rd_of h0 h1]
theorem rd_inv {p : List Int} {x : Int} (h0 : 0 ≤ x) (h1 : x < (p.length : Int)) : rd (invL p) x = (posOf p x : Int) := by
 rw [rd_of (q := invL p) h0 (by rw [invL_length]; exact h1), invL_get p (by omega), show ((x.toNat : Nat) : Int) = x by omega]
theorem rd_inv_of {p : List Int} (hp : IsPerm p) {x : Int} (h0 : 0 ≤ x) (h1 : x < (p.length : Int)) : rd (invL p) (rd p x) = x := by
 have b := rd_perm hp h0 h1
 rw [rd_inv b.1 b.2, rd_of h0 h1, hp.posOf_at]
 omega
/-- A list of squares that is closed under the new pair is closed under the old one: the new pair meets all squares. -/
theorem surf_of {r u r' u' : List Int} (h : IsSurf r u) (hr : IsPerm r') (hu : IsPerm u') (lr : r'.length = r.length) (lu : u'.length = r.length)
  (hc : ∀ C : List Int, Few r.length C → (∀ x ∈ C, rd r' x ∈ C ∧ rd u' x ∈ C) → ∀ x ∈ C, rd r x ∈ C ∧ rd u x ∈ C) : IsSurf r' u' := by
 have pos := h.pos
 obtain ⟨f1, c1, m1, _⟩ := reachL_all r' u' hr hu (by omega) (s := 0) (by omega) (by omega)
 obtain ⟨f0, c0, m0, l0⟩ := reachL_all r u h.right h.up h.same (s := 0) (by omega) (by omega)
 rw [lr] at f1
 have sub := l0 (· ∈ reachL r' u' 0) (fun x _ _ hx => hc _ f1 c1 x hx) m1
 have := sub_len _ _ f0.nodup sub
 have := f1.len
 have := h.all
 exact ⟨hr, hu, by omega, by omega, by have := h.le; omega, by omega⟩
/-- What a permutation keeps, its inverse keeps. -/
theorem back {n : Nat} {C : List Int} (hf : Few n C) {p : List Int} (hp : IsPerm p) (hl : p.length = n) (h : ∀ x ∈ C, rd p x ∈ C) : ∀ x ∈ C, rd (invL p) x ∈ C := by
 intro x hx
 obtain ⟨y, hy, e⟩ := onto hf.nodup (f := rd p) (fun a ha b hb e => rd_inj hp (hf.lo a ha) (by have := hf.hi a ha; omega) (hf.lo b hb) (by have := hf.hi b hb; omega) e) h hx
 rw [← e, rd_inv_of hp (hf.lo y hy) (by have := hf.hi y hy; omega)]
 exact hy
theorem shear_surf {r u : List Int} (h : IsSurf r u) : IsSurf (shearV r u).1 (shearV r u).2 := by
 have s := h.same
 have e1 : (invL r).length = u.length := by rw [invL_length, s]
 refine surf_of h h.right (h.right.inv.then h.up e1) rfl (by rw [shearV, thenL_length, invL_length]) fun C hf hc x hx => ⟨(hc x hx).1, ?_⟩
 have b := rd_perm h.right (hf.lo x hx) (hf.hi x hx)
 have := (hc _ (hc x hx).1).2
 rwa [shearV, rd_then b.1 (by rw [invL_length]; exact b.2), rd_inv_of h.right (hf.lo x hx) (hf.hi x hx)] at this
/-- The move of a letter. -/
def letV (c : Int) (r u : List Int) : List Int × List Int := if c = 84 then shearV r u else if c = 116 then unshearV r u else if c = 83 then turnV r u else unturnV r u

end Go.Proofs.Ytlohmpgbjgidpad.Q
namespace Go.Proofs.Ytlohmpgbjgidpad.Q
open Go.RowKit Go.Proofs.Ytlohmpgbjgidpad.P Go.Proofs.YtlohmpgbjgidpadW.PrintWords Go.Proofs.YtlohmpgbjgidpadW.PrintLast
/- A copy of a list. -/
theorem copyInts_some (l : List Int) (h : l.length ≤ 24) : impl_copyInts.f l = some l := by
 rw [impl_copyInts.f, Option.bind_some, if_pos (by simp; omega), List.nil_append]

end Go.Proofs.Ytlohmpgbjgidpad.Q
namespace Go.Proofs.Ytlohmpgbjgidpad.Q
open Go.RowKit Go.Proofs.Ytlohmpgbjgidpad.P Go.Proofs.YtlohmpgbjgidpadW.PrintWords Go.Proofs.YtlohmpgbjgidpadW.PrintLast
/- The canonical form: the least of the forms with the names from each square. -/
def lessL : List Int → List Int → Bool
 | x :: a, y :: b => if x = y then lessL a b else decide (x < y)
 | _, _ => false
/-- The surface with the names from a square. -/
def nmd (r u : List Int) (k : Nat) : List Int × List Int := (renL r (namesL r u (k : Int)), renL u (namesL r u (k : Int)))
def beforeS (a b : List Int × List Int) : Bool := if a.1 = b.1 then lessL a.2 b.2 else lessL a.1 b.1
def canonF (r u : List Int) : Nat → Nat → List Int × List Int → List Int × List Int
 | 0, _, best => best
 | d + 1, i, best => canonF r u d (i + 1) (if beforeS (nmd r u i) best = true then nmd r u i else best)
def canonL (r u : List Int) : List Int × List Int := canonF r u (r.length - 1) 1 (nmd r u 0)
def canonB (r u : List Int) : List Int × List Int × Bool := if transB r u = true then ((canonL r u).1, (canonL r u).2, true) else ([], [], false)
theorem nmd_length {r u : List Int} (h : IsSurf r u) {k : Nat} (hk : k < r.length) : (nmd r u k).1.length = r.length ∧ (nmd r u k).2.length = r.length := by
 have := namesL_length h (s := (k : Int)) (by omega) (by omega)
 simp only [nmd, renL_length]
 exact ⟨this, this⟩
theorem canonF_length {r u : List Int} (h : IsSurf r u) : ∀ (d i : Nat) (b : List Int × List Int), i + d ≤ r.length → b.1.length = r.length → b.2.length = r.length → (canonF r u d i b).1.length = r.length ∧ (canonF r u d i b).2.length = r.length
 | 0, _, b, _, h1, h2 => ⟨h1, h2⟩
 | d + 1, i, b, hi, h1, h2 => by
  have nl := nmd_length h (k := i) (by omega)
  rw [canonF]
  split
  ·exact canonF_length h d (i + 1) _ (by omega) nl.1 nl.2
  ·exact canonF_length h d (i + 1) _ (by omega) h1 h2
theorem canonL_length {r u : List Int} (h : IsSurf r u) : (canonL r u).1.length = r.length ∧ (canonL r u).2.length = r.length := by
 have := h.pos
 have nl := nmd_length h (k := 0) (by omega)
 exact canonF_length h _ _ _ (by omega) nl.1 nl.2

end Go.Proofs.Ytlohmpgbjgidpad.Q
namespace Go.Proofs.Ytlohmpgbjgidpad.Q
open Go.RowKit Go.Proofs.Ytlohmpgbjgidpad.P Go.Proofs.YtlohmpgbjgidpadW.PrintWords Go.Proofs.YtlohmpgbjgidpadW.PrintLast
/- The program's names: the squares that are not met yet hold -1. -/
def namesAt (n : Nat) (out : List Int) : List Int := (List.range n).map fun (j : Nat) => if (j : Int) ∈ out then (posOf out (j : Int) : Int) else -1
theorem namesAt_length (n : Nat) (out : List Int) : (namesAt n out).length = n := by simp [namesAt]
theorem namesAt_get (n : Nat) (out : List Int) {j : Nat} (h : j < n) : (namesAt n out)[j]'(by rw [namesAt_length]; exact h) = if (j : Int) ∈ out then (posOf out (j : Int) : Int) else -1 := by simp [namesAt]
theorem namesAt_neg {n : Nat} {out : List Int} {x : Int} (h0 : 0 ≤ x) (h1 : x < (n : Int)) : (rd (namesAt n out) x < 0) ↔ ¬ out.contains x = true := by
 obtain ⟨j, rfl⟩ := Int.eq_ofNat_of_zero_le h0
 rw [rdg (by rw [namesAt_length]; omega), namesAt_get n out (by omega)]
 simp only [List.contains_eq_mem, decide_eq_true_eq]
 split
 ·rename_i h
  exact ⟨fun e => by omega, fun e => absurd h e⟩
 ·rename_i h
  exact ⟨fun _ => h, fun _ => by omega⟩
theorem namesAt_set {n : Nat} {out : List Int} {x : Int} (h0 : 0 ≤ x) (h1 : x < (n : Int)) (hx : ¬ out.contains x = true) : (namesAt n out).set x.toNat (out.length : Int) = namesAt n (out ++ [x]) := by
 simp only [List.contains_eq_mem, decide_eq_true_eq] at hx
 apply List.ext_getElem (by rw [List.length_set, namesAt_length, namesAt_length])
 intro j i1 i2
 rw [namesAt_length] at i2
 rw [namesAt_get n _ i2, List.getElem_set]
 split
 ·rename_i e
  have e2 : (j : Int) = x := by omega
  rw [e2, if_pos (by simp)]
  unfold posOf
  rw [List.idxOf_append, if_neg hx]
  simp
 ·rename_i e
  have e2 : (j : Int) ≠ x := by omega
  rw [namesAt_get n _ i2]
  by_cases m : (j : Int) ∈ out
  ·rw [if_pos m, if_pos (by simp [m])]
   unfold posOf
   rw [List.idxOf_append, if_pos m]
  ·rw [if_neg m, if_neg (by simp [m, e2])]
theorem namesAt_full {n : Nat} {out : List Int} (h : Few n out) (hl : out.length = n) : namesAt n out = invL out := by
 apply List.ext_getElem (by rw [namesAt_length, invL_length, hl])
 intro j i1 i2
 rw [namesAt_length] at i1
 rw [namesAt_get n _ i1, invL_get out (by omega)]
 exact if_pos ((h.perm hl).mem (by omega) (by omega))
theorem impl_names_loop (p q : List Int) (hp : IsPerm p) (hq : IsPerm q) (hl : p.length = q.length) (hn : p.length ≤ 24) : ∀ (d a : Nat) (out : List Int), p.length + 1 ≤ a + d → a ≤ out.length → Few p.length out →
  Ev (fun k => impl_NamesFrom.l1 k (namesAt p.length out) out (a : Int) p q) (namesAt p.length (reachF p q d out a)) := by
 intro d
 induction d with
 | zero => intro a out h ha hf; have := hf.len; omega
 | succ d ih =>
  intro a out h ha hf
  have len := hf.len
  refine Ev.step (fun k => by rw [impl_NamesFrom.l1]) ?_
  rw [reachF]
  by_cases c : a < out.length
  ·rw [if_pos c]
   have m := rd_mem c
   have x0 := hf.lo _ m
   have x1 := hf.hi _ m
   have bp := rd_perm hp x0 x1
   have bq := rd_perm hq x0 (by omega)
   have f1 := hf.add bp.1 bp.2
   have f2 := f1.add bq.1 (by omega)
   have l1 := addNew_length out (rd p (rd out (a : Int)))
   have l2 := addNew_length (addNew out (rd p (rd out (a : Int)))) (rd q (rd out (a : Int)))
   have n1 := f1.len
   have n2 := f2.len
   have next := ih (a + 1) _ (by omega) (by omega) f2
   refine Ev.pos (by omega) (Ev.pos (by omega) (Ev.pos x0 (Ev.pos x1 (Ev.pos (by omega) (Ev.plain rfl ?_)))))
   rw [← hl] at bq
   generalize rd p (rd out (a : Int)) = x at *
   generalize rd q (rd out (a : Int)) = y at *
   have r0 : rd [x, y] 0 = x := rfl
   have r1 : rd [x, y] 1 = y := rfl
   have tail : ∀ (o : List Int), o.length ≤ 24 → addNew o y = addNew (addNew out x) y →
     Ev (fun k => impl_NamesFrom.l2 k (namesAt p.length o) o (a : Int) [x, y] 2 1 p q) (namesAt p.length (reachF p q d (addNew (addNew out x) y) (a + 1))) := by
    intro o ho e
    refine Ev.step (fun k => by rw [impl_NamesFrom.l2]) (Ev.pos (by omega) (Ev.pos (by omega) (Ev.pos (by simp) ?_)))
    rw [r1, namesAt_length]
    refine Ev.pos (by omega) (Ev.pos (by omega) ?_)
    by_cases b : o.contains y = true
    ·refine Ev.neg (fun z => (namesAt_neg bq.1 bq.2).1 z b) (Ev.step (fun k => by rw [impl_NamesFrom.l2]) (Ev.neg (by rw [wr2]; omega) ?_))
     rw [w64n (by omega)]
     rw [addNew, if_pos b] at e
     rw [← e] at next
     rw [← e]
     exact next
    ·refine Ev.pos ((namesAt_neg bq.1 bq.2).2 b) (Ev.pos (by omega) (Ev.step (fun k => by rw [impl_NamesFrom.l2]) (Ev.neg (by rw [wr2]; omega) ?_)))
     rw [w64n (by omega), namesAt_set bq.1 bq.2 b]
     rw [addNew, if_neg b] at e
     rw [← e] at next
     rw [← e]
     exact next
   refine Ev.step (fun k => by rw [impl_NamesFrom.l2]) (Ev.pos (by simp) (Ev.pos (by omega) (Ev.pos (by simp) ?_)))
   rw [r0, wr1, namesAt_length]
   refine Ev.pos (by omega) (Ev.pos (by omega) ?_)
   by_cases b : out.contains x = true
   ·refine Ev.neg (fun z => (namesAt_neg bp.1 bp.2).1 z b) ?_
    exact tail out (by omega) (by rw [show addNew out x = out by rw [addNew, if_pos b]])
   ·refine Ev.pos ((namesAt_neg bp.1 bp.2).2 b) (Ev.pos (by omega) ?_)
    have e : addNew out x = out ++ [x] := by rw [addNew, if_neg b]
    rw [namesAt_set bp.1 bp.2 b, ← e]
    exact tail _ (by omega) rfl
  ·rw [if_neg c]
   exact Ev.neg (by omega) (Ev.now _)
theorem impl_minus_loop (n : Nat) (s : Int) (p q : List Int) (hn : n ≤ 24) (r : List Int) (h0 : 0 ≤ s) (h1 : s < (n : Int)) (next : Ev (fun k => impl_NamesFrom.l1 k (namesAt n [s]) [s] 0 p q) r) :
  ∀ (d i : Nat) (ys : List Int), i + d = n → ys.length = n → ys.take i = List.replicate i (-1) → Ev (fun k => impl_NamesFrom.l0 k s ys n i p q) r := by
 intro d
 induction d with
 | zero =>
  intro i ys h hl hy
  refine Ev.step (fun k => by rw [impl_NamesFrom.l0]) (Ev.neg (by omega) (Ev.pos h0 (Ev.pos (by omega) ?_)))
  rw [List.take_of_length_le (by omega)] at hy
  have e : namesAt n [] = ys := by
   rw [hy, show i = n by omega]
   apply List.ext_getElem (by rw [namesAt_length, List.length_replicate])
   intro j i1 i2
   rw [namesAt_length] at i1
   rw [namesAt_get n _ i1]
   simp
  have := namesAt_set (n := n) (out := []) h0 h1 (by simp)
  rw [e] at this
  simp only [List.length_nil, List.nil_append] at this
  rw [show (0 : Int) = ((0 : Nat) : Int) from rfl]
  rw [this]
  exact next
 | succ d ih =>
  intro i ys h hl hy
  refine Ev.step (fun k => by rw [impl_NamesFrom.l0]) (Ev.pos (by omega) (Ev.pos (by omega) (Ev.pos (by omega) ?_)))
  rw [w64n (by omega), Int.toNat_natCast]
  refine ih (i + 1) _ (by omega) (by rw [List.length_set, hl]) ?_
  rw [List.take_succ_eq_append_getElem (by simp; omega), List.getElem_set_self, List.take_set_of_le (by omega), hy, List.replicate_succ']
theorem impl_NamesFrom_ev (r u : List Int) (s : Int) : Ev (fun k => impl_NamesFrom.f k r u s) (namesB r u s) := by
 have no : Ev (fun k => impl_NamesFrom.j0 k s true r u) [] := Ev.step (fun k => by rw [impl_NamesFrom.j0]) (Ev.pos rfl (Ev.now _))
 refine Ev.same (fun k => by rw [impl_NamesFrom.f]) (Ev.bind (impl_SurfaceOk_ev r u) ?_)
 unfold namesB
 by_cases h : transB r u = true
 ·refine Ev.pos h ?_
  by_cases h0 : s < 0
  ·rw [if_neg (fun z => by omega)]
   exact Ev.pos h0 no
  ·refine Ev.neg h0 ?_
   by_cases h1 : s ≥ (r.length : Int)
   ·rw [if_neg (fun z => by omega), decide_eq_true h1]
    exact no
   ·rw [if_pos ⟨h, by omega, by omega⟩, decide_eq_false h1]
    have i := (transB_iff r u).1 h
    have hle := i.le
    refine Ev.step (fun k => by rw [impl_NamesFrom.j0]) (Ev.neg (by simp) (Ev.pos (by omega) (Ev.pos (by omega) (Ev.plain rfl ?_))))
    rw [List.length_replicate, Int.toNat_natCast]
    refine impl_minus_loop r.length s r u hle _ (by omega) (by omega) ?_ r.length 0 _ (by omega) (by simp) (by simp)
    have f := few_one (n := r.length) (s := s) (by omega) (by omega)
    have := impl_names_loop r u i.right i.up i.same hle (r.length + 1) 0 [s] (by omega) (by simp) f
    have e : namesAt r.length (reachF r u (r.length + 1) [s] 0) = namesL r u s :=
     namesAt_full (reachL_all r u i.right i.up i.same (by omega) (by omega)).1 (reach_full i (by omega) (by omega))
    rw [e] at this
    exact this
 ·rw [if_neg (fun z => h z.1)]
  exact Ev.neg h no

end Go.Proofs.Ytlohmpgbjgidpad.Q
namespace Go.Proofs.Ytlohmpgbjgidpad.Q
open Go.RowKit Go.Proofs.Ytlohmpgbjgidpad.P Go.Proofs.YtlohmpgbjgidpadW.PrintWords Go.Proofs.YtlohmpgbjgidpadW.PrintLast
/- What RenameSurface returns. -/
def renSB (r u q : List Int) : List Int × List Int × Bool := if transB r u = true ∧ permB q = true ∧ q.length = r.length then (renL r q, renL u q, true) else ([], [], false)

end Go.Proofs.Ytlohmpgbjgidpad.Q
namespace Go.Proofs.Ytlohmpgbjgidpad.Q
open Go.RowKit Go.Proofs.Ytlohmpgbjgidpad.P Go.Proofs.YtlohmpgbjgidpadW.PrintWords Go.Proofs.YtlohmpgbjgidpadW.PrintLast
/- A list that is filled place by place along a permutation. -/
def fillAt (q : List Int) (g : Nat → Int) (i : Nat) : List Int := (List.range q.length).map fun (j : Nat) => if posOf q (j : Int) < i then g (posOf q (j : Int)) else 0
theorem fillAt_length (q : List Int) (g : Nat → Int) (i : Nat) : (fillAt q g i).length = q.length := by simp [fillAt]
theorem fillAt_get (q : List Int) (g : Nat → Int) (i : Nat) {j : Nat} (h : j < q.length) : (fillAt q g i)[j]'(by rw [fillAt_length]; exact h) = if posOf q (j : Int) < i then g (posOf q (j : Int)) else 0 := by simp [fillAt]
theorem fillAt_zero (q : List Int) (g : Nat → Int) : fillAt q g 0 = List.replicate q.length 0 := by
 apply List.ext_getElem (by rw [fillAt_length, List.length_replicate])
 intro j h1 h2
 rw [fillAt_length] at h1
 rw [fillAt_get q g 0 h1]
 simp
theorem fillAt_set {q : List Int} (hq : IsPerm q) (g : Nat → Int) {i : Nat} (hi : i < q.length) : (fillAt q g i).set (q[i]).toNat (g i) = fillAt q g (i + 1) := by
 apply List.ext_getElem (by rw [List.length_set, fillAt_length, fillAt_length])
 intro j h1 h2
 rw [fillAt_length] at h2
 rw [fillAt_get q g (i + 1) h2, List.getElem_set]
 have m := hq.mem (j := (j : Int)) (by omega) (by omega)
 have a := posOf_get m
 have l0 := hq.get_lo hi
 split
 ·rename_i e
  have e2 : (j : Int) = q[i] := by omega
  rw [e2, hq.posOf_at hi]
  simp
 ·rename_i e
  rw [fillAt_get q g i h2]
  have hne : posOf q (j : Int) ≠ i := by
   intro e2
   simp only [e2] at a
   omega
  by_cases c : posOf q (j : Int) < i
  ·rw [if_pos c, if_pos (by omega)]
  ·rw [if_neg c, if_neg (by omega)]
theorem fill_inv {p : List Int} (hp : IsPerm p) : fillAt p (fun i => (i : Int)) p.length = invL p := by
 apply List.ext_getElem (by rw [fillAt_length, invL_length])
 intro j h1 h2
 rw [invL_length] at h2
 rw [fillAt_get p _ _ h2, invL_get p h2]
 exact if_pos (posOf_lt (hp.mem (by omega) (by omega)))
theorem fill_ren {p q : List Int} (hq : IsPerm q) (hl : p.length = q.length) : fillAt q (fun i => rd q (rd p (i : Int))) q.length = renL p q := by
 apply List.ext_getElem (by rw [fillAt_length, renL_length])
 intro j h1 h2
 rw [renL_length] at h2
 rw [fillAt_get q _ _ h2]
 have m := hq.mem (j := (j : Int)) (by omega) (by omega)
 have lt := posOf_lt m
 rw [if_pos lt]
 show _ = (thenL (invL q) (thenL p q))[j]'(by rw [thenL_length, invL_length]; exact h2)
 rw [thenL_get _ _ (by rw [invL_length]; exact h2), invL_get q h2, rdg (xs := thenL p q) (by rw [thenL_length]; omega), thenL_get p q (by omega), rdg (xs := p) (by omega)]

end Go.Proofs.Ytlohmpgbjgidpad.Q
namespace Go.Proofs.Ytlohmpgbjgidpad.Q
open Go.RowKit Go.Proofs.Ytlohmpgbjgidpad.P Go.Proofs.YtlohmpgbjgidpadW.PrintWords Go.Proofs.YtlohmpgbjgidpadW.PrintLast
/- The two RenamePerm functions. -/
theorem spec_ren_loop (p q : List Int) (hp : IsPerm p) (hq : IsPerm q) (hl : p.length = q.length) (hn : p.length ≤ 24) : ∀ (d i : Nat), i + d = p.length →
  Ev (fun k => spec_l02Rename.l0 k q (fillAt q (fun i => rd q (rd p (i : Int))) i) p (p.length : Int) i) (renL p q) := by
 intro d
 induction d with
 | zero =>
  intro i h
  refine Ev.step (fun k => by rw [spec_l02Rename.l0]) (Ev.neg (by omega) ?_)
  rw [show i = q.length by omega, fill_ren hq hl]
  exact Ev.now _
 | succ d ih =>
  intro i h
  have a := hp.get_lo (i := i) (by omega)
  have b := hp.get_hi (i := i) (by omega)
  have a' := hq.get_lo (i := i) (by omega)
  have b' := hq.get_hi (i := i) (by omega)
  refine Ev.step (fun k => by rw [spec_l02Rename.l0]) ?_
  have s := fillAt_set hq (fun i => rd q (rd p (i : Int))) (i := i) (by omega)
  rw [rdg (xs := p) (by omega)] at s
  rw [rdg (xs := p) (by omega), rdg (xs := q) (i := i) (by omega), w64n (by omega), fillAt_length, s]
  refine Ev.pos (by omega) (Ev.pos (by omega) (Ev.pos (by omega) (Ev.pos (by omega) (Ev.pos (by omega) (Ev.pos (by omega) (Ev.pos (by omega) (Ev.pos (by omega) ?_)))))))
  exact ih (i + 1) (by omega)
theorem spec_l02Rename_ev (p q : List Int) (hp : IsPerm p) (hq : IsPerm q) (hl : p.length = q.length) (hn : p.length ≤ 24) : Ev (fun k => spec_l02Rename.f k p q) (renL p q) := by
 refine Ev.same (fun k => by rw [spec_l02Rename.f]) (Ev.pos (by omega) (Ev.pos (by omega) ?_))
 have := spec_ren_loop p q hp hq hl hn p.length 0 (by omega)
 rw [fillAt_zero, ← hl] at this
 simpa using this
/-- What RenamePerm returns. -/
def renB (p q : List Int) : List Int := if permB p = true ∧ permB q = true ∧ p.length = q.length then renL p q else []
theorem impl_ren_loop (p q : List Int) (hp : IsPerm p) (hq : IsPerm q) (hl : p.length = q.length) (hn : p.length ≤ 24) : ∀ (d i : Nat), i + d = p.length →
  Ev (fun k => impl_RenamePerm.l0 k q (fillAt q (fun i => rd q (rd p (i : Int))) i) p (p.length : Int) i) (renL p q) := by
 intro d
 induction d with
 | zero =>
  intro i h
  refine Ev.step (fun k => by rw [impl_RenamePerm.l0]) (Ev.neg (by omega) ?_)
  rw [show i = q.length by omega, fill_ren hq hl]
  exact Ev.now _
 | succ d ih =>
  intro i h
  have a := hp.get_lo (i := i) (by omega)
  have b := hp.get_hi (i := i) (by omega)
  have a' := hq.get_lo (i := i) (by omega)
  have b' := hq.get_hi (i := i) (by omega)
  refine Ev.step (fun k => by rw [impl_RenamePerm.l0]) ?_
  have s := fillAt_set hq (fun i => rd q (rd p (i : Int))) (i := i) (by omega)
  rw [rdg (xs := p) (by omega)] at s
  rw [rdg (xs := p) (by omega), rdg (xs := q) (i := i) (by omega), w64n (by omega), fillAt_length, s]
  refine Ev.pos (by omega) (Ev.pos (by omega) (Ev.pos (by omega) (Ev.pos (by omega) (Ev.pos (by omega) (Ev.pos (by omega) (Ev.pos (by omega) (Ev.pos (by omega) ?_)))))))
  exact ih (i + 1) (by omega)
theorem impl_RenamePerm_ev (p q : List Int) : Ev (fun k => impl_RenamePerm.f k p q) (renB p q) := by
 have no : Ev (fun k => impl_RenamePerm.j0 k p q true) [] := Ev.step (fun k => by rw [impl_RenamePerm.j0]) (Ev.pos rfl (Ev.now _))
 refine Ev.same (fun k => by rw [impl_RenamePerm.f]) (Ev.plain (impl_PermOk_some p) ?_)
 unfold renB
 by_cases h : permB p = true
 ·refine Ev.pos h (Ev.plain (impl_PermOk_some q) ?_)
  by_cases h' : permB q = true
  ·refine Ev.pos h' ?_
   by_cases e : p.length = q.length
   ·rw [if_pos ⟨h, h', e⟩, show ((p.length : Int) != (q.length : Int)) = false by simp [e]]
    have hp := (permB_iff p).1 h
    refine Ev.step (fun k => by rw [impl_RenamePerm.j0]) (Ev.neg (by simp) (Ev.pos (by omega) (Ev.pos (by omega) ?_)))
    have := impl_ren_loop p q hp.2 ((permB_iff q).1 h').2 e hp.1 p.length 0 (by omega)
    rw [fillAt_zero, ← e] at this
    simpa using this
   ·rw [if_neg (fun z => e z.2.2), show ((p.length : Int) != (q.length : Int)) = true by simp; omega]
    exact no
  ·rw [if_neg (fun z => h' z.2.1)]
   exact Ev.neg h' no
 ·rw [if_neg (fun z => h z.1)]
  exact Ev.neg h no

end Go.Proofs.Ytlohmpgbjgidpad.Q
namespace Go.Proofs.Ytlohmpgbjgidpad.Q
open Go.RowKit Go.Proofs.Ytlohmpgbjgidpad.P Go.Proofs.YtlohmpgbjgidpadW.PrintWords Go.Proofs.YtlohmpgbjgidpadW.PrintLast
/- The program's renaming. -/
theorem impl_RenameSurface_ev (r u q : List Int) : Ev (fun k => impl_RenameSurface.f k r u q) (renSB r u q) := by
 have no : Ev (fun k => impl_RenameSurface.j0 k q true r u) ([], [], false) := Ev.step (fun k => by rw [impl_RenameSurface.j0]) (Ev.pos rfl (Ev.now _))
 refine Ev.same (fun k => by rw [impl_RenameSurface.f]) (Ev.bind (impl_SurfaceOk_ev r u) ?_)
 unfold renSB
 by_cases h : transB r u = true
 ·refine Ev.pos h (Ev.plain (impl_PermOk_some q) ?_)
  by_cases h' : permB q = true
  ·refine Ev.pos h' ?_
   by_cases e : q.length = r.length
   ·rw [if_pos ⟨h, h', e⟩, show ((q.length : Int) != (r.length : Int)) = false by simp [e]]
    have s := (transB_iff r u).1 h
    have := s.same
    refine Ev.step (fun k => by rw [impl_RenameSurface.j0]) (Ev.neg (by simp) (Ev.bind (impl_RenamePerm_ev r q) ?_))
    rw [renB, if_pos ⟨s.permR, h', by omega⟩]
    refine Ev.bind (impl_RenamePerm_ev u q) ?_
    rw [renB, if_pos ⟨s.permU, h', by omega⟩]
    exact Ev.now _
   ·rw [if_neg (fun z => e z.2.2), show ((q.length : Int) != (r.length : Int)) = true by simp; omega]
    exact no
  ·rw [if_neg (fun z => h' z.2.1)]
   exact Ev.neg h' no
 ·rw [if_neg (fun z => h z.1)]
  exact Ev.neg h no

end Go.Proofs.Ytlohmpgbjgidpad.Q
namespace Go.Proofs.Ytlohmpgbjgidpad.Q
open Go.RowKit Go.Proofs.Ytlohmpgbjgidpad.P Go.Proofs.YtlohmpgbjgidpadW.PrintWords Go.Proofs.YtlohmpgbjgidpadW.PrintLast
/- The two CountSquares functions. -/
def countB (r u : List Int) : Int := if transB r u = true then (r.length : Int) else 0
theorem impl_CountSquares_ev (r u : List Int) : Ev (fun k => impl_CountSquares.f k r u) (countB r u) := by
 refine Ev.same (fun k => by rw [impl_CountSquares.f]) (Ev.bind (impl_SurfaceOk_ev r u) ?_)
 unfold countB
 cases transB r u with
 | true => exact Ev.now _
 | false => exact Ev.now _

end Go.Proofs.Ytlohmpgbjgidpad.Q
namespace Go.Proofs.Ytlohmpgbjgidpad.Q
open Go.RowKit Go.Proofs.Ytlohmpgbjgidpad.P Go.Proofs.YtlohmpgbjgidpadW.PrintWords Go.Proofs.YtlohmpgbjgidpadW.PrintLast
/- The program's canonical form. -/
def cmpL (a b : List Int) : Int := if lessL a b = true then -1 else if a = b then 0 else 1
theorem cmp_some (x y : Int) : cmp_Compare_int.f x y = some (if x = y then 0 else if x < y then -1 else 1) := by
 unfold cmp_Compare_int.f
 by_cases e : x = y
 ·subst e; simp [cmp_isNaN_int.f]
 ·by_cases l : x < y
  ·simp [e, l, cmp_isNaN_int.f]
  ·have : x > y := by omega
   simp [e, l, this, cmp_isNaN_int.f]
theorem less_cons (x y : Int) (a b : List Int) : lessL (x :: a) (y :: b) = if x = y then lessL a b else decide (x < y) := by rw [lessL]
theorem cmp_cons (x y : Int) (a b : List Int) : cmpL (x :: a) (y :: b) = if x = y then cmpL a b else if x < y then -1 else 1 := by
 unfold cmpL
 rw [less_cons]
 by_cases e : x = y
 ·subst e; simp
 ·simp only [if_neg e, decide_eq_true_eq]
  by_cases l : x < y
  ·rw [if_pos l, if_pos l]
  ·rw [if_neg l, if_neg l, if_neg (fun z => e (List.cons.inj z).1)]
theorem impl_cmp_loop (a b : List Int) (hl : a.length = b.length) (hn : a.length < 9223372036854775807) : ∀ (d i : Nat), i + d = a.length → Ev (fun k => slices_Compare_int_int.l0 k a b a (a.length : Int) i) (cmpL (a.drop i) (b.drop i)) := by
 intro d
 induction d with
 | zero =>
  intro i h
  refine Ev.step (fun k => by rw [slices_Compare_int_int.l0]) (Ev.neg (by omega) (Ev.neg (by omega) ?_))
  rw [List.drop_of_length_le (by omega), List.drop_of_length_le (by omega)]
  exact Ev.now _
 | succ d ih =>
  intro i h
  refine Ev.step (fun k => by rw [slices_Compare_int_int.l0]) (Ev.pos (by omega) (Ev.pos (by omega) (Ev.pos (by omega) (Ev.neg (by omega) (Ev.pos (by omega) (Ev.plain (cmp_some _ _) ?_))))))
  rw [rdg (by omega), rdg (by omega), List.drop_eq_getElem_cons (l := a) (i := i) (by omega), List.drop_eq_getElem_cons (l := b) (i := i) (by omega), cmp_cons]
  by_cases e : a[i] = b[i]
  ·rw [if_pos e, if_pos e]
   refine Ev.pos rfl ?_
   rw [w64n (by omega)]
   exact ih (i + 1) (by omega)
  ·rw [if_neg e, if_neg e]
   refine Ev.neg (by split <;> omega) ?_
   exact Ev.now _
theorem impl_cmp_ev (a b : List Int) (hl : a.length = b.length) (hn : a.length < 9223372036854775807) : Ev (fun k => slices_Compare_int_int.f k a b) (cmpL a b) := by
 have := impl_cmp_loop a b hl hn a.length 0 (by omega)
 exact Ev.same (fun k => by rw [slices_Compare_int_int.f]; rfl) this
theorem impl_cmpS_ev (a b : List Int × List Int) (h1 : a.1.length = b.1.length) (h2 : a.2.length = b.2.length) (n1 : a.1.length < 9223372036854775807) (n2 : a.2.length < 9223372036854775807) : Ev (fun k => impl_compareSurfaces.f k a.1 a.2 b.1 b.2) (if cmpL a.1 b.1 = 0 then cmpL a.2 b.2 else cmpL a.1 b.1) := by
 refine Ev.same (fun k => by rw [impl_compareSurfaces.f]) (Ev.bind (impl_cmp_ev a.1 b.1 h1 n1) ?_)
 by_cases e : cmpL a.1 b.1 = 0
 ·rw [if_pos e]
  exact Ev.pos e (Ev.bind (impl_cmp_ev a.2 b.2 h2 n2) (Ev.now _))
 ·rw [if_neg e]
  exact Ev.neg e (Ev.now _)
theorem less_self : ∀ a : List Int, lessL a a = false
 | [] => rfl
 | x :: a => by rw [lessL, if_pos rfl, less_self a]
theorem cmp_before (a b : List Int × List Int) : ((if cmpL a.1 b.1 = 0 then cmpL a.2 b.2 else cmpL a.1 b.1) < 0) ↔ beforeS a b = true := by
 have neg : ∀ x y : List Int, cmpL x y < 0 ↔ lessL x y = true := by
  intro x y
  unfold cmpL
  split
  ·rename_i h; simp [h]
  ·rename_i h
   split <;> simp [h]
 have zero : ∀ x y : List Int, cmpL x y = 0 ↔ x = y := by
  intro x y
  unfold cmpL
  split
  ·rename_i h
   constructor
   ·intro z; omega
   ·rintro rfl; rw [less_self] at h; exact absurd h (by simp)
  ·split
   ·rename_i h; simp [h]
   ·rename_i h; simp [h]
 unfold beforeS
 by_cases e : a.1 = b.1
 ·rw [if_pos ((zero _ _).2 e), if_pos e, neg]
 ·rw [if_neg (fun z => e ((zero _ _).1 z)), if_neg e, neg]
/-- The program's list of the forms. -/
def formsL (r u : List Int) (n : Nat) : List S27 := (List.range n).map fun k => (⟨(nmd r u k).1, (nmd r u k).2⟩ : S27)
theorem formsL_length (r u : List Int) (n : Nat) : (formsL r u n).length = n := by simp [formsL]
theorem formsL_succ (r u : List Int) (n : Nat) : formsL r u (n + 1) = formsL r u n ++ [⟨(nmd r u n).1, (nmd r u n).2⟩] := by simp [formsL, List.range_succ]
theorem formsL_get (r u : List Int) (n : Nat) {k : Nat} (h : k < n) : rd_T27 (formsL r u n) (k : Int) = ⟨(nmd r u k).1, (nmd r u k).2⟩ := by
 simp [rd_T27, formsL, h]
theorem impl_named_loop {r u : List Int} (h : IsSurf r u) : ∀ (d i : Nat), i + d = r.length → Ev (fun k => impl_namedFrom.l0 k (formsL r u i) i r u) (formsL r u r.length) := by
 have le := h.le
 have hb := (transB_iff r u).2 h
 intro d
 induction d with
 | zero =>
  intro i hi
  refine Ev.step (fun k => by rw [impl_namedFrom.l0]) (Ev.bind (impl_CountSquares_ev r u) ?_)
  rw [countB, if_pos hb, show i = r.length by omega]
  exact Ev.neg (by omega) (Ev.now _)
 | succ d ih =>
  intro i hi
  refine Ev.step (fun k => by rw [impl_namedFrom.l0]) (Ev.bind (impl_CountSquares_ev r u) ?_)
  rw [countB, if_pos hb]
  refine Ev.pos (by omega) (Ev.bind (impl_NamesFrom_ev r u i) ?_)
  rw [namesB, if_pos ⟨hb, by omega, by omega⟩]
  refine Ev.bind (impl_RenameSurface_ev r u _) ?_
  have nl := namesL_length h (s := (i : Int)) (by omega) (by omega)
  rw [renSB, if_pos ⟨hb, (permB_iff _).2 ⟨by omega, namesL_perm h (by omega) (by omega)⟩, nl⟩]
  refine Ev.pos (by rw [formsL_length]; omega) ?_
  rw [w64n (by omega)]
  have := ih (i + 1) (by omega)
  rw [formsL_succ] at this
  exact this
theorem impl_named_none {r u : List Int} (h : ¬ transB r u = true) : Ev (fun k => impl_namedFrom.f k r u) [] := by
 refine Ev.same (fun k => by rw [impl_namedFrom.f]) (Ev.step (fun k => by rw [impl_namedFrom.l0]) (Ev.bind (impl_CountSquares_ev r u) ?_))
 rw [countB, if_neg h]
 exact Ev.neg (by omega) (Ev.now _)
theorem impl_named_some {r u : List Int} (h : IsSurf r u) : Ev (fun k => impl_namedFrom.f k r u) (formsL r u r.length) :=
 Ev.same (fun k => by rw [impl_namedFrom.f]; rfl) (impl_named_loop h r.length 0 (by omega))
theorem impl_min_loop {r u : List Int} (h : IsSurf r u) : ∀ (d i : Nat) (b : List Int × List Int), i + d = r.length → b.1.length = r.length → b.2.length = r.length → Ev (fun k => minOf.l0 k (formsL r u r.length) i ⟨b.1, b.2⟩) ⟨(canonF r u d i b).1, (canonF r u d i b).2⟩ := by
 have le := h.le
 intro d
 induction d with
 | zero =>
  intro i b hi _ _
  refine Ev.step (fun k => by rw [minOf.l0]) (Ev.neg (by rw [formsL_length]; omega) ?_)
  exact Ev.now _
 | succ d ih =>
  intro i b hi h1 h2
  have nl := nmd_length h (k := i) (by omega)
  refine Ev.step (fun k => by rw [minOf.l0]) (Ev.pos (by rw [formsL_length]; omega) ?_)
  rw [formsL_get r u _ (by omega)]
  refine Ev.bind (impl_cmpS_ev (nmd r u i) b (by omega) (by omega) (by omega) (by omega)) ?_
  rw [canonF, w64n (by omega)]
  by_cases c : beforeS (nmd r u i) b = true
  ·rw [if_pos c]
   exact Ev.pos ((cmp_before _ _).2 c) (ih (i + 1) _ (by omega) nl.1 nl.2)
  ·rw [if_neg c]
   exact Ev.neg (fun z => c ((cmp_before _ _).1 z)) (ih (i + 1) _ (by omega) h1 h2)
theorem impl_CanonOf_ev (r u : List Int) : Ev (fun k => impl_CanonOf.f k r u) (canonB r u) := by
 refine Ev.same (fun k => by rw [impl_CanonOf.f]) ?_
 unfold canonB
 by_cases h : transB r u = true
 ·rw [if_pos h]
  have i := (transB_iff r u).1 h
  have := i.pos
  have nl := nmd_length i (k := 0) (by omega)
  refine Ev.bind (impl_named_some i) (Ev.neg (by rw [formsL_length]; omega) ?_)
  have g := formsL_get r u r.length (k := 0) (by omega)
  rw [show ((0 : Nat) : Int) = 0 from rfl] at g
  rw [g]
  exact Ev.bind (impl_min_loop i (r.length - 1) 1 (nmd r u 0) (by omega) nl.1 nl.2) (Ev.now _)
 ·rw [if_neg h]
  exact Ev.bind (impl_named_none h) (Ev.pos rfl (Ev.now _))

end Go.Proofs.Ytlohmpgbjgidpad.Q
namespace Go.Proofs.Ytlohmpgbjgidpad.Q
open Go.RowKit Go.Proofs.Ytlohmpgbjgidpad.P Go.Proofs.YtlohmpgbjgidpadW.PrintWords Go.Proofs.YtlohmpgbjgidpadW.PrintLast
/- The two InversePerm functions. -/
theorem spec_inv2_loop (p : List Int) (hp : IsPerm p) (hn : p.length ≤ 24) : ∀ (d i : Nat), i + d = p.length →
  Ev (fun k => spec_l02Inverse.l0 k (fillAt p (fun i => (i : Int)) i) p (p.length : Int) i) (invL p) := by
 intro d
 induction d with
 | zero =>
  intro i h
  refine Ev.step (fun k => by rw [spec_l02Inverse.l0]) (Ev.neg (by omega) ?_)
  rw [show i = p.length by omega, fill_inv hp]
  exact Ev.now _
 | succ d ih =>
  intro i h
  have a := hp.get_lo (i := i) (by omega)
  have b := hp.get_hi (i := i) (by omega)
  refine Ev.step (fun k => by rw [spec_l02Inverse.l0]) ?_
  rw [rdg (by omega), w64n (by omega)]
  rw [fillAt_length, fillAt_set hp (fun i => (i : Int)) (by omega)]
  refine Ev.pos (by omega) (Ev.pos (by omega) (Ev.pos (by omega) (Ev.pos (by omega) (Ev.pos (by omega) ?_))))
  exact ih (i + 1) (by omega)
theorem spec_l02Inverse_ev (p : List Int) (hp : IsPerm p) (hn : p.length ≤ 24) : Ev (fun k => spec_l02Inverse.f k p) (invL p) := by
 refine Ev.same (fun k => by rw [spec_l02Inverse.f]) (Ev.pos (by omega) (Ev.pos (by omega) ?_))
 have := spec_inv2_loop p hp hn p.length 0 (by omega)
 rw [fillAt_zero] at this
 simpa using this
/-- What InversePerm returns. -/
def invB (p : List Int) : List Int := if permB p = true then invL p else []
theorem impl_inv2_loop (p : List Int) (hp : IsPerm p) (hn : p.length ≤ 24) : ∀ (d i : Nat), i + d = p.length →
  Ev (fun k => impl_InversePerm.l0 k (fillAt p (fun i => (i : Int)) i) p (p.length : Int) i) (invL p) := by
 intro d
 induction d with
 | zero =>
  intro i h
  refine Ev.step (fun k => by rw [impl_InversePerm.l0]) (Ev.neg (by omega) ?_)
  rw [show i = p.length by omega, fill_inv hp]
  exact Ev.now _
 | succ d ih =>
  intro i h
  have a := hp.get_lo (i := i) (by omega)
  have b := hp.get_hi (i := i) (by omega)
  refine Ev.step (fun k => by rw [impl_InversePerm.l0]) ?_
  rw [rdg (by omega), w64n (by omega)]
  rw [fillAt_length, fillAt_set hp (fun i => (i : Int)) (by omega)]
  refine Ev.pos (by omega) (Ev.pos (by omega) (Ev.pos (by omega) (Ev.pos (by omega) (Ev.pos (by omega) ?_))))
  exact ih (i + 1) (by omega)
theorem impl_InversePerm_ev (p : List Int) : Ev (fun k => impl_InversePerm.f k p) (invB p) := by
 refine Ev.same (fun k => by rw [impl_InversePerm.f]) (Ev.plain (impl_PermOk_some p) ?_)
 unfold invB
 by_cases h : permB p = true
 ·have h' := (permB_iff p).1 h
  rw [if_pos h]
  refine Ev.pos h (Ev.pos (by omega) (Ev.pos (by omega) ?_))
  have := impl_inv2_loop p h'.2 h'.1 p.length 0 (by omega)
  rw [fillAt_zero] at this
  simpa using this
 ·rw [if_neg h]
  exact Ev.neg h (Ev.now _)

end Go.Proofs.Ytlohmpgbjgidpad.Q
namespace Go.Proofs.Ytlohmpgbjgidpad.Q
open Go.RowKit Go.Proofs.Ytlohmpgbjgidpad.P Go.Proofs.YtlohmpgbjgidpadW.PrintWords Go.Proofs.YtlohmpgbjgidpadW.PrintLast
/- The reference's names. -/
theorem spec_l03Names_ev {r u : List Int} (h : IsSurf r u) {s : Int} (h0 : 0 ≤ s) (h1 : s < (r.length : Int)) : Ev (fun k => spec_l03Names.f k r u s) (namesL r u s) := by
 refine Ev.same (fun k => by rw [spec_l03Names.f]) (Ev.bind (spec_l02Reach_ev r u h.right h.up h.same h.le h0 h1) ?_)
 exact Ev.bind (spec_l02Inverse_ev _ (reach_perm h h0 h1) (by rw [reach_full h h0 h1]; exact h.le)) (Ev.now _)

end Go.Proofs.Ytlohmpgbjgidpad.Q
namespace Go.Proofs.Ytlohmpgbjgidpad.Q
open Go.RowKit Go.Proofs.Ytlohmpgbjgidpad.P Go.Proofs.YtlohmpgbjgidpadW.PrintWords Go.Proofs.YtlohmpgbjgidpadW.PrintLast
/- The reference's renaming. -/
theorem spec_l03Rename_ev {r u q : List Int} (h : IsSurf r u) (hq : IsPerm q) (hl : q.length = r.length) : Ev (fun k => spec_l03Rename.f k r u q) (renL r q, renL u q) := by
 have := h.same
 have := h.le
 refine Ev.same (fun k => by rw [spec_l03Rename.f]) (Ev.bind (spec_l02Rename_ev r q h.right hq hl.symm h.le) ?_)
 exact Ev.bind (spec_l02Rename_ev u q h.up hq (by omega) (by omega)) (Ev.now (renL r q, renL u q))

end Go.Proofs.Ytlohmpgbjgidpad.Q
namespace Go.Proofs.Ytlohmpgbjgidpad.Q
open Go.RowKit Go.Proofs.Ytlohmpgbjgidpad.P Go.Proofs.YtlohmpgbjgidpadW.PrintWords Go.Proofs.YtlohmpgbjgidpadW.PrintLast
/- The reference's canonical form. -/
theorem spec_less_loop (a b : List Int) (hl : a.length = b.length) (hn : a.length < 9223372036854775807) : ∀ (d i : Nat), i + d = a.length → Ev (fun k => spec_l03Less.l0 k b a (a.length : Int) i) (lessL (a.drop i) (b.drop i)) := by
 intro d
 induction d with
 | zero =>
  intro i h
  refine Ev.step (fun k => by rw [spec_l03Less.l0]) (Ev.neg (by omega) ?_)
  rw [List.drop_of_length_le (by omega), List.drop_of_length_le (by omega)]
  exact Ev.now _
 | succ d ih =>
  intro i h
  refine Ev.step (fun k => by rw [spec_l03Less.l0]) (Ev.pos (by omega) (Ev.pos (by omega) (Ev.pos (by omega) (Ev.pos (by omega) ?_))))
  rw [rdg (by omega), rdg (by omega), List.drop_eq_getElem_cons (l := a) (i := i) (by omega), List.drop_eq_getElem_cons (l := b) (i := i) (by omega), lessL]
  by_cases e : a[i] = b[i]
  ·rw [if_pos e]
   refine Ev.pos e ?_
   rw [w64n (by omega)]
   exact ih (i + 1) (by omega)
  ·rw [if_neg e]
   exact Ev.neg e (Ev.now _)
theorem spec_l03Less_ev (a b : List Int) (hl : a.length = b.length) (hn : a.length < 9223372036854775807) : Ev (fun k => spec_l03Less.f k a b) (lessL a b) := by
 have := spec_less_loop a b hl hn a.length 0 (by omega)
 exact Ev.same (fun k => by rw [spec_l03Less.f]; rfl) this
theorem spec_l03Before_ev (a b : List Int × List Int) (h1 : a.1.length = b.1.length) (h2 : a.2.length = b.2.length) (n1 : a.1.length < 9223372036854775807) (n2 : a.2.length < 9223372036854775807) : Ev (fun k => spec_l03Before.f k a.1 a.2 b.1 b.2) (beforeS a b) := by
 refine Ev.same (fun k => by rw [spec_l03Before.f]) (Ev.bind (spec_SameList_ev a.1 b.1 n1) ?_)
 unfold beforeS
 by_cases e : a.1 = b.1
 ·rw [decide_eq_true e, if_pos e]
  exact Ev.pos rfl (Ev.bind (spec_l03Less_ev a.2 b.2 h2 n2) (Ev.now _))
 ·rw [decide_eq_false e, if_neg e]
  exact Ev.neg (by simp) (Ev.bind (spec_l03Less_ev a.1 b.1 h1 n1) (Ev.now _))
theorem spec_nmd {r u : List Int} (h : IsSurf r u) {k : Nat} (hk : k < r.length) {α : Type} {f : Nat → List Int × List Int → Option α} {z : α} (next : Ev (fun n => f n (nmd r u k)) z) : Ev (fun n => (spec_l03Names.f n r u (k : Int)).bind fun t => (spec_l03Rename.f n r u t).bind (f n)) z :=
 Ev.bind (spec_l03Names_ev h (by omega) (by omega)) (Ev.bind (spec_l03Rename_ev h (namesL_perm h (by omega) (by omega)) (namesL_length h (by omega) (by omega))) next)
theorem spec_canon_loop {r u : List Int} (h : IsSurf r u) : ∀ (d i : Nat) (b : List Int × List Int), i + d = r.length → b.1.length = r.length → b.2.length = r.length → Ev (fun k => spec_l03Canon.l0 k i r u b.1 b.2) (canonF r u d i b) := by
 have le := h.le
 intro d
 induction d with
 | zero =>
  intro i b hi _ _
  refine Ev.step (fun k => by rw [spec_l03Canon.l0]) (Ev.neg (by omega) ?_)
  exact Ev.now _
 | succ d ih =>
  intro i b hi h1 h2
  have nl := nmd_length h (k := i) (by omega)
  refine Ev.step (fun k => by rw [spec_l03Canon.l0]) (Ev.pos (by omega) ?_)
  refine spec_nmd h (k := i) (by omega) ?_
  refine Ev.bind (spec_l03Before_ev (nmd r u i) b (by omega) (by omega) (by omega) (by omega)) ?_
  rw [canonF, w64n (by omega)]
  by_cases c : beforeS (nmd r u i) b = true
  ·rw [if_pos c]
   exact Ev.pos c (ih (i + 1) _ (by omega) nl.1 nl.2)
  ·rw [if_neg c]
   exact Ev.neg c (ih (i + 1) _ (by omega) h1 h2)
theorem spec_l03Canon_ev {r u : List Int} (h : IsSurf r u) : Ev (fun k => spec_l03Canon.f k r u) (canonL r u) := by
 have := h.pos
 have nl := nmd_length h (k := 0) (by omega)
 refine Ev.same (fun k => by rw [spec_l03Canon.f]) ?_
 refine spec_nmd h (k := 0) (by omega) ?_
 exact spec_canon_loop h (r.length - 1) 1 (nmd r u 0) (by omega) nl.1 nl.2

end Go.Proofs.Ytlohmpgbjgidpad.Q
namespace Go.Proofs.Ytlohmpgbjgidpad.Q
open Go.RowKit Go.Proofs.Ytlohmpgbjgidpad.P Go.Proofs.YtlohmpgbjgidpadW.PrintWords Go.Proofs.YtlohmpgbjgidpadW.PrintLast
/- The two ThenPerm functions. -/
theorem spec_then_loop (p q : List Int) (h0 : ∀ (i : Nat) (hi : i < p.length), 0 ≤ p[i] ∧ p[i] < (q.length : Int)) (hn : p.length ≤ 24) : ∀ (d i : Nat), i + d = p.length →
  Ev (fun k => spec_l02Then.l0 k q ((thenL p q).take i) p (p.length : Int) i) (thenL p q) := by
 intro d
 induction d with
 | zero =>
  intro i h
  refine Ev.step (fun k => by rw [spec_l02Then.l0]) (Ev.neg (by omega) ?_)
  rw [List.take_of_length_le (by rw [thenL_length]; omega)]
  exact Ev.now _
 | succ d ih =>
  intro i h
  have a := h0 i (by omega)
  refine Ev.step (fun k => by rw [spec_l02Then.l0]) ?_
  rw [rdg (by omega), w64n (by omega)]
  refine Ev.pos (by omega) (Ev.pos (by omega) (Ev.pos (by omega) (Ev.pos (by omega) (Ev.pos (by omega) (Ev.pos (by rw [List.length_take]; omega) ?_)))))
  rw [← thenL_get p q (by omega), ← List.take_succ_eq_append_getElem (by rw [thenL_length]; omega)]
  exact ih (i + 1) (by omega)
theorem spec_l02Then_ev (p q : List Int) (h0 : ∀ (i : Nat) (hi : i < p.length), 0 ≤ p[i] ∧ p[i] < (q.length : Int)) (hn : p.length ≤ 24) : Ev (fun k => spec_l02Then.f k p q) (thenL p q) :=
 Ev.same (fun k => by rw [spec_l02Then.f]; rfl) (spec_then_loop p q h0 hn p.length 0 (by omega))
/-- What ThenPerm returns. -/
def thenB (p q : List Int) : List Int := if permB p = true ∧ permB q = true ∧ p.length = q.length then thenL p q else []
theorem then_in {p q : List Int} (h : permB p = true) (hl : p.length = q.length) : ∀ (i : Nat) (hi : i < p.length), 0 ≤ p[i] ∧ p[i] < (q.length : Int) := fun i hi => by
 have := ((permB_iff p).1 h).2
 exact ⟨this.get_lo hi, by have := this.get_hi hi; omega⟩
theorem impl_then_loop (p q : List Int) (h0 : ∀ (i : Nat) (hi : i < p.length), 0 ≤ p[i] ∧ p[i] < (q.length : Int)) (hn : p.length ≤ 24) : ∀ (d i : Nat) (ys : List Int), i + d = p.length → ys.length = p.length → ys.take i = (thenL p q).take i →
  Ev (fun k => impl_ThenPerm.l0 k q ys p (p.length : Int) i) (thenL p q) := by
 intro d
 induction d with
 | zero =>
  intro i ys h hl hy
  refine Ev.step (fun k => by rw [impl_ThenPerm.l0]) (Ev.neg (by omega) ?_)
  rw [List.take_of_length_le (by omega), List.take_of_length_le (by rw [thenL_length]; omega)] at hy
  rw [hy]
  exact Ev.now _
 | succ d ih =>
  intro i ys h hl hy
  have a := h0 i (by omega)
  refine Ev.step (fun k => by rw [impl_ThenPerm.l0]) ?_
  rw [rdg (by omega), w64n (by omega)]
  refine Ev.pos (by omega) (Ev.pos (by omega) (Ev.pos (by omega) (Ev.pos (by omega) (Ev.pos (by omega) (Ev.pos (by omega) ?_)))))
  rw [Int.toNat_natCast]
  refine ih (i + 1) _ (by omega) (by rw [List.length_set, hl]) ?_
  rw [List.take_succ_eq_append_getElem (by simp; omega), List.getElem_set_self, List.take_set_of_le (by omega), hy, List.take_succ_eq_append_getElem (l := thenL p q) (by rw [thenL_length]; omega), thenL_get p q (by omega)]
theorem impl_ThenPerm_ev (p q : List Int) : Ev (fun k => impl_ThenPerm.f k p q) (thenB p q) := by
 have no : Ev (fun k => impl_ThenPerm.j0 k p q true) [] := Ev.step (fun k => by rw [impl_ThenPerm.j0]) (Ev.pos rfl (Ev.now _))
 refine Ev.same (fun k => by rw [impl_ThenPerm.f]) (Ev.plain (impl_PermOk_some p) ?_)
 unfold thenB
 by_cases h : permB p = true
 ·refine Ev.pos h (Ev.plain (impl_PermOk_some q) ?_)
  by_cases h' : permB q = true
  ·refine Ev.pos h' ?_
   by_cases e : p.length = q.length
   ·rw [if_pos ⟨h, h', e⟩, show ((p.length : Int) != (q.length : Int)) = false by simp [e]]
    have hp := (permB_iff p).1 h
    refine Ev.step (fun k => by rw [impl_ThenPerm.j0]) (Ev.neg (by simp) (Ev.pos (by omega) (Ev.pos (by omega) ?_)))
    exact impl_then_loop p q (then_in h e) hp.1 p.length 0 _ (by omega) (by simp) (by simp)
   ·rw [if_neg (fun z => e z.2.2), show ((p.length : Int) != (q.length : Int)) = true by simp; omega]
    exact no
  ·rw [if_neg (fun z => h' z.2.1)]
   exact Ev.neg h' no
 ·rw [if_neg (fun z => h z.1)]
  exact Ev.neg h no

end Go.Proofs.Ytlohmpgbjgidpad.Q
namespace Go.Proofs.Ytlohmpgbjgidpad.Q
open Go.RowKit Go.Proofs.Ytlohmpgbjgidpad.P Go.Proofs.YtlohmpgbjgidpadW.PrintWords Go.Proofs.YtlohmpgbjgidpadW.PrintLast
/- The reference's move Shear. -/
theorem spec_l05Shear_ev (r u : List Int) (h : IsSurf r u) : Ev (fun k => spec_l05Shear.f k r u) (shearV r u) := by
 have := h.le
 refine Ev.same (fun k => by rw [spec_l05Shear.f]) (Ev.plain rfl ?_)
 refine Ev.pos (by simp; omega) ?_
 refine Ev.bind (spec_l02Inverse_ev r h.right h.le) ?_
 exact Ev.bind (spec_l02Then_ev (invL r) u (perm_in h.right.inv (by rw [invL_length, h.same])) (by rw [invL_length]; exact h.le)) (Ev.now (r, thenL (invL r) u))

end Go.Proofs.Ytlohmpgbjgidpad.Q
namespace Go.Proofs.Ytlohmpgbjgidpad.Q
open Go.RowKit Go.Proofs.Ytlohmpgbjgidpad.P Go.Proofs.YtlohmpgbjgidpadW.PrintWords Go.Proofs.YtlohmpgbjgidpadW.PrintLast
/- The program's move Shear. -/
theorem impl_ShearSurface_ev (r u : List Int) : Ev (fun k => impl_ShearSurface.f k r u) (actB shearV r u) := by
 refine Ev.same (fun k => by rw [impl_ShearSurface.f]) (Ev.bind (impl_SurfaceOk_ev r u) ?_)
 unfold actB
 by_cases h : transB r u = true
 ·rw [if_pos h]
  have s := (transB_iff r u).1 h
  refine Ev.pos h ?_
  refine Ev.plain (copyInts_some r s.le) (Ev.bind (impl_InversePerm_ev r) ?_)
  rw [invB, if_pos s.permR]
  refine Ev.bind (impl_ThenPerm_ev (invL r) u) ?_
  rw [thenB, if_pos ⟨s.permI, s.permU, by rw [invL_length, s.same]⟩]
  exact Ev.now _
 ·rw [if_neg h]
  exact Ev.neg h (Ev.now _)

end Go.Proofs.Ytlohmpgbjgidpad.Q
namespace Go.Proofs.Ytlohmpgbjgidpad.Q
open Go.RowKit Go.Proofs.Ytlohmpgbjgidpad.P Go.Proofs.YtlohmpgbjgidpadW.PrintWords Go.Proofs.YtlohmpgbjgidpadW.PrintLast
/- The program's move Turn. -/
theorem impl_TurnSurface_ev (r u : List Int) : Ev (fun k => impl_TurnSurface.f k r u) (actB turnV r u) := by
 refine Ev.same (fun k => by rw [impl_TurnSurface.f]) (Ev.bind (impl_SurfaceOk_ev r u) ?_)
 unfold actB
 by_cases h : transB r u = true
 ·rw [if_pos h]
  have s := (transB_iff r u).1 h
  refine Ev.pos h ?_
  refine Ev.bind (impl_InversePerm_ev u) ?_
  rw [invB, if_pos s.permU]
  exact Ev.plain (copyInts_some r s.le) (Ev.now _)
 ·rw [if_neg h]
  exact Ev.neg h (Ev.now _)

end Go.Proofs.Ytlohmpgbjgidpad.Q
namespace Go.Proofs.Ytlohmpgbjgidpad.Q
open Go.RowKit Go.Proofs.Ytlohmpgbjgidpad.P Go.Proofs.YtlohmpgbjgidpadW.PrintWords Go.Proofs.YtlohmpgbjgidpadW.PrintLast
/- The program's move Unturn. -/
theorem impl_UnturnSurface_ev (r u : List Int) : Ev (fun k => impl_UnturnSurface.f k r u) (actB unturnV r u) := by
 refine Ev.same (fun k => by rw [impl_UnturnSurface.f]) (Ev.bind (impl_SurfaceOk_ev r u) ?_)
 unfold actB
 by_cases h : transB r u = true
 ·rw [if_pos h]
  have s := (transB_iff r u).1 h
  refine Ev.pos h ?_
  refine Ev.plain (copyInts_some u s.leU) (Ev.bind (impl_InversePerm_ev r) ?_)
  rw [invB, if_pos s.permR]
  exact Ev.now _
 ·rw [if_neg h]
  exact Ev.neg h (Ev.now _)

end Go.Proofs.Ytlohmpgbjgidpad.Q
namespace Go.Proofs.Ytlohmpgbjgidpad.Q
open Go.RowKit Go.Proofs.Ytlohmpgbjgidpad.P Go.Proofs.YtlohmpgbjgidpadW.PrintWords Go.Proofs.YtlohmpgbjgidpadW.PrintLast
/- The program's move Unshear. -/
theorem impl_UnshearSurface_ev (r u : List Int) : Ev (fun k => impl_UnshearSurface.f k r u) (actB unshearV r u) := by
 refine Ev.same (fun k => by rw [impl_UnshearSurface.f]) (Ev.bind (impl_SurfaceOk_ev r u) ?_)
 unfold actB
 by_cases h : transB r u = true
 ·rw [if_pos h]
  have s := (transB_iff r u).1 h
  refine Ev.pos h ?_
  refine Ev.plain (copyInts_some r s.le) (Ev.bind (impl_ThenPerm_ev r u) ?_)
  rw [thenB, if_pos ⟨s.permR, s.permU, s.same⟩]
  exact Ev.now _
 ·rw [if_neg h]
  exact Ev.neg h (Ev.now _)

end Go.Proofs.Ytlohmpgbjgidpad.Q
namespace Go.Proofs.Ytlohmpgbjgidpad.Q
open Go.RowKit Go.Proofs.Ytlohmpgbjgidpad.P Go.Proofs.YtlohmpgbjgidpadW.PrintWords Go.Proofs.YtlohmpgbjgidpadW.PrintLast
/- The program's words. -/
theorem act_ok {v : List Int → List Int → List Int × List Int} {r u : List Int} (h : IsSurf r u) : actB v r u = ((v r u).1, (v r u).2, true) := if_pos ((transB_iff r u).2 h)
theorem impl_letterSurface_ev {r u : List Int} (h : IsSurf r u) (c : Int) (hc : letterP 0 c = true) : Ev (fun k => impl_letterSurface.f k r u c) (letV c r u) := by
 simp only [letterP, Bool.or_eq_true, decide_eq_true_eq] at hc
 refine Ev.same (fun k => by rw [impl_letterSurface.f]) ?_
 unfold letV
 by_cases a1 : c = 84
 ·rw [if_pos a1]
  refine Ev.pos a1 (Ev.bind (impl_ShearSurface_ev r u) ?_)
  rw [act_ok h]
  exact Ev.now _
 rw [if_neg a1]
 refine Ev.neg a1 ?_
 by_cases a2 : c = 116
 ·rw [if_pos a2]
  refine Ev.pos a2 (Ev.bind (impl_UnshearSurface_ev r u) ?_)
  rw [act_ok h]
  exact Ev.now _
 rw [if_neg a2]
 refine Ev.neg a2 ?_
 by_cases a3 : c = 83
 ·rw [if_pos a3]
  refine Ev.pos a3 (Ev.bind (impl_TurnSurface_ev r u) ?_)
  rw [act_ok h]
  exact Ev.now _
 rw [if_neg a3]
 refine Ev.neg a3 (Ev.pos (by omega) (Ev.bind (impl_UnturnSurface_ev r u) ?_))
 rw [act_ok h]
 exact Ev.now _
theorem impl_copySurface_some (r u : List Int) (hr : r.length ≤ 24) (hu : u.length ≤ 24) : impl_copySurface.f r u = some (r, u) := by
 rw [impl_copySurface.f, copyInts_some r hr, Option.bind_some, copyInts_some u hu, Option.bind_some]

end Go.Proofs.Ytlohmpgbjgidpad.Q
namespace Go.Proofs.Ytlohmpgbjgidpad.Q
open Go.RowKit Go.Proofs.Ytlohmpgbjgidpad.P Go.Proofs.YtlohmpgbjgidpadW.PrintWords Go.Proofs.YtlohmpgbjgidpadW.PrintLast
/- The two ShearPeriod functions: some number of shears leads back. -/
def powP (p : List Int) : Nat → Int → Int
 | 0, x => x
 | n + 1, x => rd p (powP p n x)
theorem powP_in {p : List Int} (hp : IsPerm p) {x : Int} (h0 : 0 ≤ x) (h1 : x < (p.length : Int)) : ∀ n, 0 ≤ powP p n x ∧ powP p n x < (p.length : Int)
 | 0 => ⟨h0, h1⟩
 | n + 1 => rd_perm hp (powP_in hp h0 h1 n).1 (powP_in hp h0 h1 n).2
theorem powP_add (p : List Int) (x : Int) (m : Nat) : ∀ n, powP p (m + n) x = powP p n (powP p m x)
 | 0 => rfl
 | n + 1 => by rw [← Nat.add_assoc, powP, powP, powP_add p x m n]
theorem powP_mul (p : List Int) (x : Int) (m : Nat) (h : powP p m x = x) : ∀ n, powP p (m * n) x = x
 | 0 => rfl
 | n + 1 => by rw [Nat.mul_succ, powP_add, powP_mul p x m h n, h]
theorem powP_inj {p : List Int} (hp : IsPerm p) {x y : Int} (x0 : 0 ≤ x) (x1 : x < (p.length : Int)) (y0 : 0 ≤ y) (y1 : y < (p.length : Int)) : ∀ n, powP p n x = powP p n y → x = y
 | 0, e => e
 | n + 1, e => by
  have a := powP_in hp x0 x1 n
  have b := powP_in hp y0 y1 n
  exact powP_inj hp x0 x1 y0 y1 n (rd_inj hp a.1 a.2 b.1 b.2 e)
/-- Each square comes back. -/
theorem order_one {p : List Int} (hp : IsPerm p) {x : Int} (h0 : 0 ≤ x) (h1 : x < (p.length : Int)) : ∃ k, 0 < k ∧ powP p k x = x := by
 apply Classical.byContradiction
 intro hn
 have := pig p.length ((List.range (p.length + 1)).map fun k => powP p k x) (by
  apply nodup_of_inj
  intro i j hi hj e
  simp only [List.length_map, List.length_range] at hi hj
  simp only [List.getElem_map, List.getElem_range] at e
  rcases Nat.lt_trichotomy i j with hlt | he | hgt
  ·exfalso
   apply hn
   refine ⟨j - i, by omega, ?_⟩
   have b := powP_in hp h0 h1 (j - i)
   refine powP_inj hp b.1 b.2 h0 h1 i ?_
   rw [← powP_add, show j - i + i = j by omega, e]
  ·exact he
  ·exfalso
   apply hn
   refine ⟨i - j, by omega, ?_⟩
   have b := powP_in hp h0 h1 (i - j)
   refine powP_inj hp b.1 b.2 h0 h1 j ?_
   rw [← powP_add, show i - j + j = i by omega, e]) (fun y hy => by
  obtain ⟨k, _, rfl⟩ := List.mem_map.1 hy
  exact powP_in hp h0 h1 k)
 simp only [List.length_map, List.length_range] at this
 omega
theorem order_all {p : List Int} (hp : IsPerm p) : ∀ m : Nat, m ≤ p.length → ∃ k, 0 < k ∧ ∀ j : Nat, j < m → powP p k (j : Int) = j
 | 0, _ => ⟨1, by omega, fun j hj => by omega⟩
 | m + 1, hm => by
  obtain ⟨a, ha, h⟩ := order_all hp m (by omega)
  obtain ⟨b, hb, h'⟩ := order_one hp (x := (m : Int)) (by omega) (by omega)
  refine ⟨a * b, Nat.mul_pos ha hb, fun j hj => ?_⟩
  by_cases e : j = m
  ·subst e
   rw [Nat.mul_comm]
   exact powP_mul p _ b h' a
  ·exact powP_mul p _ a (h j (by omega)) b
/-- Shears, one behind the other. -/
def shears : Nat → List Int → List Int → List Int × List Int
 | 0, r, u => (r, u)
 | n + 1, r, u => shears n (shearV r u).1 (shearV r u).2
theorem shears_spec : ∀ (n : Nat) {r u : List Int}, IsSurf r u → (shears n r u).1 = r ∧ IsSurf r (shears n r u).2 ∧ ∀ x : Int, 0 ≤ x → x < (r.length : Int) → rd (shears n r u).2 x = rd u (powP (invL r) n x)
 | 0, r, u, h => ⟨rfl, h, fun x _ _ => rfl⟩
 | n + 1, r, u, h => by
  have hs := shear_surf h
  obtain ⟨a, b, c⟩ := shears_spec n hs
  refine ⟨a, b, fun x h0 h1 => ?_⟩
  rw [shears, c x h0 h1]
  have bd := powP_in h.right.inv h0 (by rw [invL_length]; exact h1) n
  exact rd_then bd.1 bd.2
theorem shears_back {r u : List Int} (h : IsSurf r u) : ∃ n, 0 < n ∧ shears n r u = (r, u) := by
 obtain ⟨k, hk, hp⟩ := order_all h.right.inv r.length (by rw [invL_length]; exact Nat.le_refl _)
 refine ⟨k, hk, ?_⟩
 obtain ⟨a, b, c⟩ := shears_spec k h
 have s := h.same
 have s' := b.same
 apply Prod.ext
 ·exact a
 ·apply List.ext_getElem (by show (shears k r u).2.length = u.length; omega)
  intro j h1 h2
  have h2' : j < u.length := h2
  show (shears k r u).2[j]'h1 = u[j]'h2'
  have := c (j : Int) (by omega) (by omega)
  rw [hp j (by omega), rdg h1, rdg h2'] at this
  exact this
theorem period_both (c : List Int × List Int) (hc : c.1.length ≤ 24) (hc' : c.2.length ≤ 24) : ∀ (d : Nat) (n : Int) {r u : List Int}, IsSurf r u → canonL (shears d (shearV r u).1 (shearV r u).2).1 (shears d (shearV r u).1 (shearV r u).2).2 = c →
  ∃ v, Ev (fun k => spec_ShearPeriod.l0 k n c.1 c.2 (shearV r u).1 (shearV r u).2) v ∧ Ev (fun k => impl_ShearPeriod.l0 k n c.1 c.2 r u) v := by
 have both : ∀ (n : Int) {r u : List Int}, IsSurf r u → ∀ v, (if sameB (canonL (shearV r u).1 (shearV r u).2).1 (canonL (shearV r u).1 (shearV r u).2).2 c.1 c.2 = true then v = n else
   Ev (fun k => spec_ShearPeriod.l0 k (wrap64 (n + 1)) c.1 c.2 (shearV (shearV r u).1 (shearV r u).2).1 (shearV (shearV r u).1 (shearV r u).2).2) v ∧ Ev (fun k => impl_ShearPeriod.l0 k (wrap64 (n + 1)) c.1 c.2 (shearV r u).1 (shearV r u).2) v) →
   Ev (fun k => spec_ShearPeriod.l0 k n c.1 c.2 (shearV r u).1 (shearV r u).2) v ∧ Ev (fun k => impl_ShearPeriod.l0 k n c.1 c.2 r u) v := by
  intro n r u h v next
  have hs := shear_surf h
  have nl := canonL_length hs
  have le := hs.le
  have cb : canonB (shearV r u).1 (shearV r u).2 = ((canonL (shearV r u).1 (shearV r u).2).1, (canonL (shearV r u).1 (shearV r u).2).2, true) := if_pos ((transB_iff _ _).2 hs)
  constructor
  ·refine Ev.step (fun k => by rw [spec_ShearPeriod.l0]) (Ev.bind (spec_l03Canon_ev hs) ?_)
   refine Ev.bind (spec_SameSurface_ev (canonL (shearV r u).1 (shearV r u).2).1 (canonL (shearV r u).1 (shearV r u).2).2 c.1 c.2 (by omega) (by omega)) ?_
   by_cases z : sameB (canonL (shearV r u).1 (shearV r u).2).1 (canonL (shearV r u).1 (shearV r u).2).2 c.1 c.2 = true
   ·rw [if_pos z] at next
    rw [next]
    exact Ev.pos z (Ev.now _)
   ·rw [if_neg z] at next
    exact Ev.neg z (Ev.bind (spec_l05Shear_ev _ _ hs) next.1)
  ·refine Ev.step (fun k => by rw [impl_ShearPeriod.l0]) (Ev.bind (impl_letterSurface_ev h 84 (by decide)) ?_)
   rw [show letV 84 r u = shearV r u from if_pos rfl]
   refine Ev.bind (impl_CanonOf_ev _ _) ?_
   rw [cb]
   refine Ev.bind (impl_SameSurface_ev (canonL (shearV r u).1 (shearV r u).2).1 (canonL (shearV r u).1 (shearV r u).2).2 c.1 c.2 (by omega) (by omega)) ?_
   by_cases z : sameB (canonL (shearV r u).1 (shearV r u).2).1 (canonL (shearV r u).1 (shearV r u).2).2 c.1 c.2 = true
   ·rw [if_pos z] at next
    rw [next]
    exact Ev.pos z (Ev.now _)
   ·rw [if_neg z] at next
    exact Ev.neg z next.2
 intro d
 induction d with
 | zero =>
  intro n r u h e
  refine ⟨n, both n h n ?_⟩
  rw [if_pos]
  rw [show shears 0 (shearV r u).1 (shearV r u).2 = ((shearV r u).1, (shearV r u).2) from rfl] at e
  rw [e, sameB]
  simp
 | succ d ih =>
  intro n r u h e
  by_cases z : sameB (canonL (shearV r u).1 (shearV r u).2).1 (canonL (shearV r u).1 (shearV r u).2).2 c.1 c.2 = true
  ·exact ⟨n, both n h n (by rw [if_pos z])⟩
  ·obtain ⟨v, hv⟩ := ih (wrap64 (n + 1)) (shear_surf h) e
   exact ⟨v, both n h v (by rw [if_neg z]; exact hv)⟩
theorem ShearPeriod_ev (r u : List Int) (hr : r.length < 9223372036854775807) (hu : u.length < 9223372036854775807) : ∃ v, Ev (fun k => spec_ShearPeriod.f k r u) v ∧ Ev (fun k => impl_ShearPeriod.f k r u) v := by
 by_cases h : transB r u = true
 ·have i := (transB_iff r u).1 h
  have nl := canonL_length i
  have le := i.le
  obtain ⟨m, hm, e⟩ := shears_back i
  obtain ⟨d, rfl⟩ : ∃ d, m = d + 1 := ⟨m - 1, by omega⟩
  obtain ⟨v, h1, h2⟩ := period_both (canonL r u) (by omega) (by omega) d 1 i (by rw [shears] at e; rw [e])
  refine ⟨v, ?_, ?_⟩
  ·refine Ev.same (fun k => by rw [spec_ShearPeriod.f]) (Ev.bind (spec_SurfaceOk_ev r u hr hu) (Ev.pos h ?_))
   exact Ev.bind (spec_l03Canon_ev i) (Ev.bind (spec_l05Shear_ev r u i) h1)
  ·refine Ev.same (fun k => by rw [impl_ShearPeriod.f]) (Ev.bind (impl_CanonOf_ev r u) ?_)
   rw [canonB, if_pos h]
   refine Ev.pos rfl (Ev.plain (impl_copySurface_some r u i.le i.leU) ?_)
   exact h2
 ·refine ⟨0, ?_, ?_⟩
  ·exact Ev.same (fun k => by rw [spec_ShearPeriod.f]) (Ev.bind (spec_SurfaceOk_ev r u hr hu) (Ev.neg h (Ev.now _)))
  ·refine Ev.same (fun k => by rw [impl_ShearPeriod.f]) (Ev.bind (impl_CanonOf_ev r u) ?_)
   rw [canonB, if_neg h]
   exact Ev.neg (by simp) (Ev.now _)

end Go.Proofs.Ytlohmpgbjgidpad.Q
namespace Go.Proofs.Ytlohmpgbjgidpad.Pure
open Go.RowKit Go.Proofs.Ytlohmpgbjgidpad.P Go.Proofs.YtlohmpgbjgidpadW.PrintWords Go.Proofs.YtlohmpgbjgidpadW.PrintLast Go.Proofs.Ytlohmpgbjgidpad.Q

theorem FnExactShearPeriod : laws_FnExactShearPeriod.Pure := by
 intro r u hr _ hu _
 have hm : maxLen ≤ 9223372036854775807 := by decide
 refine Ev.out ?_
 refine Ev.same (fun k => by rw [laws_FnExactShearPeriod.f]) ?_
 by_cases h : (1048576 : Int) < (r.length : Int) + (u.length : Int)
 ·refine Ev.plain (szS_big r u _ (by omega) (by omega) (by omega) (by omega) h) ?_
  exact Ev.pos (by omega) (Ev.now _)
 refine Ev.plain (szS_small r u _ (by omega) (by omega)) ?_
 refine Ev.neg (by omega) ?_
 obtain ⟨v, e1, e2⟩ := ShearPeriod_ev r u (by omega) (by omega)
 refine Ev.bind (toSurface_ev r u (by omega) (by omega)) ?_
 refine Ev.bind e1 ?_
 refine Ev.bind (toSurface_ev r u (by omega) (by omega)) ?_
 refine Ev.bind e2 ?_
 refine Ev.pos rfl ?_
 refine Ev.bind (toSurface_ev r u (by omega) (by omega)) ?_
 refine Ev.bind (eqSurface_self r u (by omega) (by omega)) ?_
 exact Ev.pos rfl (Ev.now _)

end Go.Proofs.Ytlohmpgbjgidpad.Pure

/- The law of corners holds for all codes: the angles add up to the number of squares, the stratum to twice the genus less 2, and the regular corners are the cycles of one square. -/
import Derived.Test.YtlohmpgbjgidpabWA
import Derived.Test.YtlohmpgbjgidpabPx0
import Derived.Test.YtlohmpgbjgidpabPx11
import Derived.Test.YtlohmpgbjgidpabPx12
import Derived.Test.YtlohmpgbjgidpabPx31
import Derived.Test.YtlohmpgbjgidpabPx32
import Derived.Test.YtlohmpgbjgidpabPx33
import Derived.Test.YtlohmpgbjgidpabPx34
import Derived.Test.YtlohmpgbjgidpabPx35
import Derived.Test.YtlohmpgbjgidpabPx36
import Derived.Test.YtlohmpgbjgidpabPx38
import Derived.Test.YtlohmpgbjgidpabPx40
import Derived.Test.YtlohmpgbjgidpabPx53
import Derived.Test.YtlohmpgbjgidpabPx54
import Derived.Test.YtlohmpgbjgidpabPx55
import Derived.Test.YtlohmpgbjgidpabPx56
import Derived.Test.YtlohmpgbjgidpabPx57
import Derived.Test.YtlohmpgbjgidpabPx58
import Derived.Test.YtlohmpgbjgidpabPx59
import Derived.Test.YtlohmpgbjgidpabPx60
import Derived.Test.YtlohmpgbjgidpabPx61
import Derived.Test.YtlohmpgbjgidpabPx62
import Derived.Test.YtlohmpgbjgidpabPx63
import Derived.Test.YtlohmpgbjgidpabPx64
import Derived.Test.YtlohmpgbjgidpabPx65
import Derived.Test.YtlohmpgbjgidpabPx66
import Derived.Test.YtlohmpgbjgidpabPx67
import Derived.Test.YtlohmpgbjgidpabPx86
import Derived.Test.YtlohmpgbjgidpabPx87
import Derived.Test.YtlohmpgbjgidpabPx88
import Derived.Test.YtlohmpgbjgidpabPx89
import Derived.Test.YtlohmpgbjgidpabPx90
import Derived.Test.YtlohmpgbjgidpabPx91
import Derived.Test.YtlohmpgbjgidpabPx92
import Derived.Test.YtlohmpgbjgidpabPx93
import Derived.Test.YtlohmpgbjgidpabPx94
set_option linter.unusedVariables false
set_option linter.unusedSimpArgs false

namespace Go.Proofs.Ytlohmpgbjgidpab.Q
open Go.RowKit Go.Proofs.Ytlohmpgbjgidpab.P Go.Proofs.YtlohmpgbjgidpabW.PrintWords Go.Proofs.YtlohmpgbjgidpabW.PrintLast
/- Small lemmas on the printed functions' words: numbers of 64 bits, elements of lists, rounds. -/
theorem w64 {x : Int} (h : -9223372036854775808 ≤ x) (h' : x ≤ 9223372036854775807) : wrap64 x = x := by
 unfold wrap64; omega
theorem w64n {i : Nat} (h : i < 9223372036854775807) : wrap64 ((i : Int) + 1) = ((i + 1 : Nat) : Int) := by
 rw [w64 (by omega) (by omega)]; omega
theorem rdn (xs : List Int) (i : Nat) : rd xs (i : Int) = xs.getD i 0 := by simp [rd]
theorem rdg {xs : List Int} {i : Nat} (h : i < xs.length) : rd xs (i : Int) = xs[i] := by simp [rd, h]
/-- From a round on. -/
theorem Ev.from {α : Type} {g : Nat → Option α} {r : α} {K : Nat} (h : ∀ k, K ≤ k → g k = some r) : Ev g r := ⟨K, h⟩
theorem Ev.succ {α : Type} {g f : Nat → Option α} {r : α} (h : ∀ k, g (k + 1) = f k) (hf : Ev f r) : Ev g r := Ev.step h hf
theorem Ev.plain {α β : Type} {x : Option α} {f : Nat → α → Option β} {a : α} {r : β} (h : x = some a) (k : Ev (fun n => f n a) r) : Ev (fun n => x.bind (f n)) r := by
 subst h; exact k
theorem Ev.pos {α : Type} {c : Prop} [Decidable c] {g f : Nat → Option α} {r : α} (h : c) (hg : Ev g r) : Ev (fun k => if c then g k else f k) r := by
 simp only [if_pos h]; exact hg
theorem Ev.neg {α : Type} {c : Prop} [Decidable c] {g f : Nat → Option α} {r : α} (h : ¬ c) (hf : Ev f r) : Ev (fun k => if c then g k else f k) r := by
 simp only [if_neg h]; exact hf
theorem Ev.out {α : Type} {g : Nat → Option α} {r : α} (h : Ev g r) : ∃ k, g k = some r := h.rounds
theorem Ev.same {α : Type} {g f : Nat → Option α} {r : α} (h : ∀ k, g k = f k) (hf : Ev f r) : Ev g r := Ev.congr h hf

end Go.Proofs.Ytlohmpgbjgidpab.Q
namespace Go.Proofs.Ytlohmpgbjgidpab.Q
open Go.RowKit Go.Proofs.Ytlohmpgbjgidpab.P Go.Proofs.YtlohmpgbjgidpabW.PrintWords Go.Proofs.YtlohmpgbjgidpabW.PrintLast
/- Permutations: the two PermOk functions tell whether a list of at most 24 numbers is a permutation. -/
def permFrom (n : Nat) : List Int → List Int → Bool
 | [], _ => true
 | x :: r, pre => (decide (0 ≤ x) && decide (x < (n : Int))) && (!(pre.contains x) && permFrom n r (pre ++ [x]))
def permB (l : List Int) : Bool := decide (l.length ≤ 24) && permFrom l.length l []
/-- A permutation of the numbers from 0 up to its length. -/
structure IsPerm (l : List Int) : Prop where
 lo : ∀ x ∈ l, 0 ≤ x
 hi : ∀ x ∈ l, x < (l.length : Int)
 nodup : l.Nodup
theorem permFrom_iff (n : Nat) : ∀ (r pre : List Int), permFrom n r pre = true ↔ (∀ x ∈ r, 0 ≤ x ∧ x < (n : Int)) ∧ (∀ x ∈ r, x ∉ pre) ∧ r.Nodup
 | [], pre => by simp [permFrom]
 | x :: r, pre => by
  rw [permFrom, Bool.and_eq_true, Bool.and_eq_true, Bool.and_eq_true, permFrom_iff n r (pre ++ [x])]
  simp only [decide_eq_true_eq, Bool.not_eq_true', List.mem_cons, forall_eq_or_imp, List.nodup_cons, List.mem_append, List.mem_singleton, not_or, List.contains_eq_mem, decide_eq_false_iff_not]
  constructor
  ·rintro ⟨⟨h1, h2⟩, h3, h4, h5, h6⟩
   exact ⟨⟨⟨h1, h2⟩, h4⟩, ⟨h3, fun y hy => (h5 y hy).1⟩, fun hx => (h5 x hx).2.1 rfl, h6⟩
  ·rintro ⟨⟨⟨h1, h2⟩, h4⟩, ⟨h3, h5⟩, h6, h7⟩
   exact ⟨⟨h1, h2⟩, h3, h4, fun y hy => ⟨h5 y hy, fun e => h6 (e ▸ hy), fun h => by cases h⟩, h7⟩
theorem permB_iff (l : List Int) : permB l = true ↔ l.length ≤ 24 ∧ IsPerm l := by
 rw [permB, Bool.and_eq_true, decide_eq_true_eq, permFrom_iff]
 exact ⟨fun ⟨a, b, _, d⟩ => ⟨a, fun x hx => (b x hx).1, fun x hx => (b x hx).2, d⟩, fun ⟨a, b⟩ => ⟨a, fun x hx => ⟨b.lo x hx, b.hi x hx⟩, (fun _ _ h => by cases h), b.nodup⟩⟩
theorem spec_has_loop (l : List Int) (x : Int) (hn : l.length < 9223372036854775807) : ∀ (d i : Nat), i + d = l.length → Ev (fun k => spec_l02Has.l0 k x l (l.length : Int) i) ((l.drop i).contains x) := by
 intro d
 induction d with
 | zero =>
  intro i h
  refine Ev.step (fun k => by rw [spec_l02Has.l0]) (Ev.neg (by omega) ?_)
  rw [List.drop_of_length_le (by omega)]
  exact Ev.now _
 | succ d ih =>
  intro i h
  refine Ev.step (fun k => by rw [spec_l02Has.l0]) (Ev.pos (by omega) (Ev.pos (by omega) (Ev.pos (by omega) ?_)))
  have hi := ih (i + 1) (by omega)
  rw [rdg (by omega), w64n (by omega), List.drop_eq_getElem_cons (by omega), List.contains_cons]
  by_cases e : l[i] = x
  ·refine Ev.pos e ?_
   rw [show (x == l[i]) = true by simp [e], Bool.true_or]
   exact Ev.now _
  ·refine Ev.neg e ?_
   rw [show (x == l[i]) = false by simpa using fun h => e h.symm, Bool.false_or]
   exact hi
theorem spec_has_ev (l : List Int) (x : Int) (hn : l.length < 9223372036854775807) : Ev (fun k => spec_l02Has.f k l x) (l.contains x) :=
 Ev.same (fun k => by rw [spec_l02Has.f]; rfl) (spec_has_loop l x hn l.length 0 (by omega))
theorem in_some (a lo hi : Int) : spec_l01In.f a lo hi = some (decide (lo ≤ a) && decide (a ≤ hi)) := by
 unfold spec_l01In.f
 by_cases h : a ≥ lo
 ·rw [if_pos h, decide_eq_true (show lo ≤ a from h), Bool.true_and]
 ·rw [if_neg h, decide_eq_false (show ¬ lo ≤ a from h), Bool.false_and]
theorem spec_perm_loop (l : List Int) (hn : l.length < 9223372036854775807) : ∀ (d i : Nat), i + d = l.length → Ev (fun k => spec_PermOk.l0 k l l (l.length : Int) i) (permFrom l.length (l.drop i) (l.take i)) := by
 intro d
 induction d with
 | zero =>
  intro i h
  refine Ev.step (fun k => by rw [spec_PermOk.l0]) (Ev.neg (by omega) ?_)
  rw [List.drop_of_length_le (by omega)]
  exact Ev.now _
 | succ d ih =>
  intro i h
  refine Ev.step (fun k => by rw [spec_PermOk.l0]) (Ev.pos (by omega) (Ev.pos (by omega) (Ev.pos (by omega) ?_)))
  have hi := ih (i + 1) (by omega)
  rw [rdg (by omega), w64n (by omega), List.drop_eq_getElem_cons (by omega), permFrom, ← List.take_succ_eq_append_getElem (by omega), w64 (by omega) (by omega)]
  refine Ev.plain (in_some _ _ _) ?_
  have e : (decide (0 ≤ l[i]) && decide (l[i] ≤ (l.length : Int) - 1)) = (decide (0 ≤ l[i]) && decide (l[i] < (l.length : Int))) := by
   rw [show decide (l[i] ≤ (l.length : Int) - 1) = decide (l[i] < (l.length : Int)) from decide_eq_decide.2 (by omega)]
  rw [e]
  by_cases c : (decide (0 ≤ l[i]) && decide (l[i] < (l.length : Int))) = true
  ·refine Ev.pos c (Ev.pos (by omega) ?_)
   rw [c, Bool.true_and, Int.toNat_natCast]
   refine Ev.bind (spec_has_ev _ _ (by rw [List.length_take]; omega)) ?_
   by_cases b : (l.take i).contains l[i] = true
   ·refine Ev.pos b ?_
    rw [b, Bool.not_true, Bool.false_and]
    exact Ev.now _
   ·refine Ev.neg b ?_
    rw [show (l.take i).contains l[i] = false by simpa using b, Bool.not_false, Bool.true_and]
    exact hi
  ·refine Ev.neg c ?_
   rw [show (decide (0 ≤ l[i]) && decide (l[i] < (l.length : Int))) = false by simpa using c, Bool.false_and]
   exact Ev.now _
theorem spec_PermOk_ev (l : List Int) (hn : l.length < 9223372036854775807) : Ev (fun k => spec_PermOk.f k l) (permB l) := by
 refine Ev.same (fun k => by rw [spec_PermOk.f]) ?_
 by_cases h : (l.length : Int) > 24
 ·refine Ev.pos h ?_
  rw [permB, decide_eq_false (show ¬ l.length ≤ 24 by omega), Bool.false_and]
  exact Ev.now _
 ·refine Ev.neg h ?_
  rw [permB, decide_eq_true (show l.length ≤ 24 by omega), Bool.true_and]
  exact spec_perm_loop l hn l.length 0 (by omega)
theorem permOkL_from (n : Nat) (hn : n ≤ 24) : ∀ (r pre : List Int) (seen : List Bool), seen.length = 24 → (∀ x : Int, 0 ≤ x → x < 24 → rdOf false seen x = pre.contains x) → permOkL r n seen = permFrom n r pre
 | [], pre, seen, hl, hs => rfl
 | x :: r, pre, seen, hl, hs => by
  rw [permOkL, permFrom]
  by_cases h1 : x < 0
  ·rw [if_pos h1, decide_eq_false (show ¬ 0 ≤ x by omega), Bool.false_and, Bool.false_and]
  rw [if_neg h1, decide_eq_true (show 0 ≤ x by omega), Bool.true_and]
  by_cases h2 : (n : Int) ≤ x
  ·rw [if_pos h2, decide_eq_false (show ¬ x < (n : Int) by omega), Bool.false_and]
  rw [if_neg h2, decide_eq_true (show x < (n : Int) by omega), Bool.true_and, hs x (by omega) (by omega)]
  by_cases h3 : pre.contains x = true
  ·rw [if_pos h3, h3, Bool.not_true, Bool.false_and]
  rw [if_neg h3, show pre.contains x = false by simpa using h3, Bool.not_false, Bool.true_and]
  refine permOkL_from n hn r _ _ (by rw [List.length_set, hl]) fun y hy0 hy1 => ?_
  have := hs y hy0 hy1
  simp only [rdOf] at this ⊢
  by_cases e : y = x
  ·subst e
   have hlt : y.toNat < seen.length := by omega
   simp [List.getD, hlt]
  ·have hne : x.toNat ≠ y.toNat := by omega
   have h4 : (pre ++ [x]).contains y = pre.contains y := by
    simp [e]
   rw [h4, ← this]
   simp [List.getD, List.getElem?_set_ne hne]
theorem rd_false (n : Nat) (x : Int) : rdOf false (List.replicate n false) x = false := by
 simp only [rdOf, List.getD, List.getElem?_replicate]
 split <;> rfl
theorem impl_PermOk_some (l : List Int) : impl_PermOk.f l = some (permB l) := by
 rw [impl_PermOk.f, permB]
 by_cases h : (l.length : Int) > 24
 ·rw [if_pos h, decide_eq_false (show ¬ l.length ≤ 24 by omega), Bool.false_and]
 ·rw [if_neg h, decide_eq_true (show l.length ≤ 24 by omega), Bool.true_and, permOkL_from l.length (by omega) l [] _ (by simp)]
  intro x h0 h1
  rw [rd_false]
  rfl

end Go.Proofs.Ytlohmpgbjgidpab.Q
namespace Go.Proofs.Ytlohmpgbjgidpab.Q
open Go.RowKit Go.Proofs.Ytlohmpgbjgidpab.P Go.Proofs.YtlohmpgbjgidpabW.PrintWords Go.Proofs.YtlohmpgbjgidpabW.PrintLast
/- Permutations: every number below the length is met; inverse, product, renaming as lists. -/
theorem pig : ∀ (n : Nat) (l : List Int), l.Nodup → (∀ x ∈ l, 0 ≤ x ∧ x < (n : Int)) → l.length ≤ n
 | 0, l, _, h => by
  cases l with
  | nil => simp
  | cons x r => have := h x (by simp); omega
 | n + 1, l, hd, h => by
  by_cases hm : (n : Int) ∈ l
  ·have := pig n (l.erase (n : Int)) (hd.erase _) (fun x hx => by
    have h1 := (hd.mem_erase_iff).1 hx
    have h2 := h x h1.2
    have h3 := h1.1
    omega)
   rw [List.length_erase_of_mem hm] at this
   omega
  ·have := pig n l hd (fun x hx => by
    have h2 := h x hx
    have : x ≠ (n : Int) := fun e => hm (e ▸ hx)
    omega)
   omega
theorem IsPerm.mem {p : List Int} (h : IsPerm p) {j : Int} (h0 : 0 ≤ j) (h1 : j < (p.length : Int)) : j ∈ p := by
 apply Classical.byContradiction
 intro hn
 have := pig p.length (j :: p) (List.nodup_cons.2 ⟨hn, h.nodup⟩) (fun x hx => by
  rcases List.mem_cons.1 hx with e | e
  ·subst e; exact ⟨h0, h1⟩
  ·exact ⟨h.lo x e, h.hi x e⟩)
 simp only [List.length_cons] at this
 omega
theorem IsPerm.get_lo {p : List Int} (h : IsPerm p) {i : Nat} (hi : i < p.length) : 0 ≤ p[i] := h.lo _ (List.getElem_mem hi)
theorem IsPerm.get_hi {p : List Int} (h : IsPerm p) {i : Nat} (hi : i < p.length) : p[i] < (p.length : Int) := h.hi _ (List.getElem_mem hi)
theorem IsPerm.inj {p : List Int} (h : IsPerm p) {i j : Nat} (hi : i < p.length) (hj : j < p.length) (e : p[i] = p[j]) : i = j := by
 have H := List.pairwise_iff_getElem.1 h.nodup
 rcases Nat.lt_trichotomy i j with hlt | he | hgt
 ·exact absurd e (H i j hi hj hlt)
 ·exact he
 ·exact absurd e.symm (H j i hj hi hgt)
/-- The place of a number in a list. -/
def posOf (p : List Int) (j : Int) : Nat := p.idxOf j
theorem posOf_lt {p : List Int} {j : Int} (h : j ∈ p) : posOf p j < p.length := List.idxOf_lt_length_iff.2 h
theorem posOf_get {p : List Int} {j : Int} (h : j ∈ p) : p[posOf p j]'(posOf_lt h) = j := by
 unfold posOf; exact List.getElem_idxOf (posOf_lt h)
theorem IsPerm.posOf_at {p : List Int} (h : IsPerm p) {i : Nat} (hi : i < p.length) : posOf p p[i] = i :=
 h.inj (posOf_lt (List.getElem_mem hi)) hi (posOf_get (List.getElem_mem hi))
/-- The inverse. -/
def invL (p : List Int) : List Int := (List.range p.length).map fun (j : Nat) => (posOf p (j : Int) : Int)
/-- The product: first p, then q. -/
def thenL (p q : List Int) : List Int := p.map (rd q ·)
theorem invL_length (p : List Int) : (invL p).length = p.length := by simp [invL]
theorem thenL_length (p q : List Int) : (thenL p q).length = p.length := by simp [thenL]
theorem invL_get (p : List Int) {j : Nat} (h : j < p.length) : (invL p)[j]'(by rw [invL_length]; exact h) = (posOf p (j : Int) : Int) := by simp [invL]
theorem thenL_get (p q : List Int) {j : Nat} (h : j < p.length) : (thenL p q)[j]'(by rw [thenL_length]; exact h) = rd q p[j] := by simp [thenL]
theorem rd_of {q : List Int} {x : Int} (h0 : 0 ≤ x) (h1 : x < (q.length : Int)) : rd q x = q[x.toNat]'(by omega) := by
 obtain ⟨n, rfl⟩ := Int.eq_ofNat_of_zero_le h0
 rw [rdg (by omega)]
 simp
theorem nodup_of_inj {l : List Int} (h : ∀ (i j : Nat) (hi : i < l.length) (hj : j < l.length), l[i] = l[j] → i = j) : l.Nodup := by
 refine List.pairwise_iff_getElem.2 fun i j hi hj hlt e => ?_
 have := h i j hi hj e
 omega
theorem IsPerm.mk' {l : List Int} (hb : ∀ (i : Nat) (hi : i < l.length), 0 ≤ l[i] ∧ l[i] < (l.length : Int)) (h : ∀ (i j : Nat) (hi : i < l.length) (hj : j < l.length), l[i] = l[j] → i = j) : IsPerm l where
 lo := fun x hx => by obtain ⟨i, hi, rfl⟩ := List.getElem_of_mem hx; exact (hb i hi).1
 hi := fun x hx => by obtain ⟨i, hi, rfl⟩ := List.getElem_of_mem hx; exact (hb i hi).2
 nodup := nodup_of_inj h
theorem IsPerm.inv {p : List Int} (h : IsPerm p) : IsPerm (invL p) := by
 refine IsPerm.mk' (fun i hi => ?_) (fun i j hi hj e => ?_)
 ·rw [invL_length] at hi
  rw [invL_get p hi, invL_length]
  have := posOf_lt (h.mem (j := (i : Int)) (by omega) (by omega))
  omega
 ·rw [invL_length] at hi hj
  rw [invL_get p hi, invL_get p hj] at e
  have a := h.mem (j := (i : Int)) (by omega) (by omega)
  have b := h.mem (j := (j : Int)) (by omega) (by omega)
  have e' : posOf p (i : Int) = posOf p (j : Int) := by omega
  have := posOf_get a
  have := posOf_get b
  simp only [e'] at *
  omega
theorem IsPerm.then {p q : List Int} (h : IsPerm p) (hq : IsPerm q) (hl : p.length = q.length) : IsPerm (thenL p q) := by
 refine IsPerm.mk' (fun i hi => ?_) (fun i j hi hj e => ?_)
 ·rw [thenL_length] at hi
  rw [thenL_get p q hi, thenL_length]
  have a := h.get_lo hi
  have b := h.get_hi hi
  rw [rd_of a (by omega)]
  have := hq.get_lo (i := p[i].toNat) (by omega)
  have := hq.get_hi (i := p[i].toNat) (by omega)
  omega
 ·rw [thenL_length] at hi hj
  rw [thenL_get p q hi, thenL_get p q hj] at e
  have a := h.get_lo hi
  have b := h.get_hi hi
  have c := h.get_lo hj
  have d := h.get_hi hj
  rw [rd_of a (by omega), rd_of c (by omega)] at e
  have := hq.inj (by omega) (by omega) e
  exact h.inj hi hj (by omega)

end Go.Proofs.Ytlohmpgbjgidpab.Q
namespace Go.Proofs.Ytlohmpgbjgidpab.Q
open Go.RowKit Go.Proofs.Ytlohmpgbjgidpab.P Go.Proofs.YtlohmpgbjgidpabW.PrintWords Go.Proofs.YtlohmpgbjgidpabW.PrintLast
/- What is met from a square by two permutations: the reference's list, and the program's. -/
def addNew (out : List Int) (x : Int) : List Int := if out.contains x = true then out else out ++ [x]
def reachF (p q : List Int) : Nat → List Int → Nat → List Int
 | 0, out, _ => out
 | d + 1, out, a => if a < out.length then reachF p q d (addNew (addNew out (rd p (rd out (a : Int)))) (rd q (rd out (a : Int)))) (a + 1) else out
theorem wr1 : wrap64 (0 + 1) = 1 := w64 (by omega) (by omega)
theorem wr2 : wrap64 (1 + 1) = 2 := w64 (by omega) (by omega)
/-- The squares in the order in which they are met. -/
def reachL (p q : List Int) (s : Int) : List Int := reachF p q (p.length + 1) [s] 0
/-- A list of different numbers below n. -/
structure Few (n : Nat) (out : List Int) : Prop where
 lo : ∀ x ∈ out, 0 ≤ x
 hi : ∀ x ∈ out, x < (n : Int)
 nodup : out.Nodup
theorem Few.len {n : Nat} {out : List Int} (h : Few n out) : out.length ≤ n := pig n out h.nodup fun x hx => ⟨h.lo x hx, h.hi x hx⟩
theorem mem_addNew {out : List Int} {x y : Int} : y ∈ addNew out x ↔ y ∈ out ∨ y = x := by
 unfold addNew
 split
 ·rename_i h
  constructor
  ·exact .inl
  ·rintro (h' | rfl)
   ·exact h'
   ·simpa using h
 ·simp
theorem Few.add {n : Nat} {out : List Int} (h : Few n out) {x : Int} (h0 : 0 ≤ x) (h1 : x < (n : Int)) : Few n (addNew out x) where
 lo := fun y hy => (mem_addNew.1 hy).elim (h.lo y) fun e => by rw [e]; exact h0
 hi := fun y hy => (mem_addNew.1 hy).elim (h.hi y) fun e => by rw [e]; exact h1
 nodup := by
  unfold addNew
  split
  ·exact h.nodup
  ·rename_i h'
   rw [List.nodup_append]
   refine ⟨h.nodup, by simp, ?_⟩
   intro a ha b hb e
   simp only [List.mem_singleton] at hb
   subst hb; subst e
   exact h' (by simpa using ha)
theorem addNew_length (out : List Int) (x : Int) : out.length ≤ (addNew out x).length := by
 unfold addNew
 split
 ·omega
 ·simp
theorem addNew_get (out : List Int) (x : Int) {i : Nat} (h : i < out.length) : (addNew out x)[i]'(by have := addNew_length out x; omega) = out[i] := by
 unfold addNew
 split
 ·rfl
 ·rw [List.getElem_append_left h]
theorem rd_perm {p : List Int} (hp : IsPerm p) {x : Int} (h0 : 0 ≤ x) (h1 : x < (p.length : Int)) : 0 ≤ rd p x ∧ rd p x < (p.length : Int) := by
 rw [rd_of h0 h1]
 exact ⟨hp.get_lo _, hp.get_hi _⟩
theorem rd_mem {out : List Int} {a : Nat} (h : a < out.length) : rd out (a : Int) ∈ out := by rw [rdg h]; exact List.getElem_mem h
/-- What the list comes to: closed, and no more than what is met. -/
theorem reachF_all (p q : List Int) (hp : IsPerm p) (hq : IsPerm q) (hl : p.length = q.length) : ∀ (d a : Nat) (out : List Int), p.length + 1 ≤ a + d → a ≤ out.length → Few p.length out →
  (∀ (i : Nat), i < a → rd p (rd out (i : Int)) ∈ out ∧ rd q (rd out (i : Int)) ∈ out) →
  Few p.length (reachF p q d out a) ∧ (∀ x ∈ reachF p q d out a, rd p x ∈ reachF p q d out a ∧ rd q x ∈ reachF p q d out a) ∧ (∀ x ∈ out, x ∈ reachF p q d out a) ∧
  (∀ S : Int → Prop, (∀ x, 0 ≤ x → x < (p.length : Int) → S x → S (rd p x) ∧ S (rd q x)) → (∀ x ∈ out, S x) → ∀ x ∈ reachF p q d out a, S x)
 | 0, a, out, h, ha, hf, hc => by have := hf.len; omega
 | d + 1, a, out, h, ha, hf, hc => by
  rw [reachF]
  by_cases c : a < out.length
  ·rw [if_pos c]
   have m := rd_mem c
   have x0 := hf.lo _ m
   have x1 := hf.hi _ m
   have bp := rd_perm hp x0 x1
   have bq := rd_perm hq x0 (by omega)
   have f1 := hf.add bp.1 bp.2
   have f2 := f1.add bq.1 (by omega)
   have l1 := addNew_length out (rd p (rd out (a : Int)))
   have l2 := addNew_length (addNew out (rd p (rd out (a : Int)))) (rd q (rd out (a : Int)))
   have same : ∀ i : Nat, i < out.length → rd (addNew (addNew out (rd p (rd out (a : Int)))) (rd q (rd out (a : Int)))) (i : Int) = rd out (i : Int) := fun i hi => by
    rw [rdg (xs := addNew _ _) (by omega), addNew_get _ _ (by omega), addNew_get _ _ hi, rdg hi]
   obtain ⟨r1, r2, r3, r4⟩ := reachF_all p q hp hq hl d (a + 1) _ (by omega) (by omega) f2 (fun i hi => by
    rw [same i (by omega)]
    by_cases e : i = a
    ·subst e
     exact ⟨mem_addNew.2 (.inl (mem_addNew.2 (.inr rfl))), mem_addNew.2 (.inr rfl)⟩
    ·have := hc i (by omega)
     exact ⟨mem_addNew.2 (.inl (mem_addNew.2 (.inl this.1))), mem_addNew.2 (.inl (mem_addNew.2 (.inl this.2)))⟩)
   refine ⟨r1, r2, fun x hx => r3 x (mem_addNew.2 (.inl (mem_addNew.2 (.inl hx)))), fun S hS h0 => r4 S hS fun x hx => ?_⟩
   have sx := hS _ x0 x1 (h0 _ m)
   rcases mem_addNew.1 hx with h' | rfl
   ·rcases mem_addNew.1 h' with h'' | rfl
    ·exact h0 x h''
    ·exact sx.1
   ·exact sx.2
  ·rw [if_neg c]
   refine ⟨hf, fun x hx => ?_, fun x hx => hx, fun S hS h0 => h0⟩
   obtain ⟨i, hi, rfl⟩ := List.getElem_of_mem hx
   have := hc i (by omega)
   rwa [rdg hi] at this
theorem few_one {n : Nat} {s : Int} (h0 : 0 ≤ s) (h1 : s < (n : Int)) : Few n [s] := ⟨by simpa using h0, by simpa using h1, by simp⟩
theorem reachL_all (p q : List Int) (hp : IsPerm p) (hq : IsPerm q) (hl : p.length = q.length) {s : Int} (h0 : 0 ≤ s) (h1 : s < (p.length : Int)) :
  Few p.length (reachL p q s) ∧ (∀ x ∈ reachL p q s, rd p x ∈ reachL p q s ∧ rd q x ∈ reachL p q s) ∧ s ∈ reachL p q s ∧
  (∀ S : Int → Prop, (∀ x, 0 ≤ x → x < (p.length : Int) → S x → S (rd p x) ∧ S (rd q x)) → S s → ∀ x ∈ reachL p q s, S x) := by
 have := reachF_all p q hp hq hl (p.length + 1) 0 [s] (by omega) (by simp) (few_one h0 h1) (fun i hi => by omega)
 exact ⟨this.1, this.2.1, this.2.2.1 s (by simp), fun S hS hs => this.2.2.2 S hS (by simpa using hs)⟩
theorem spec_reach_loop (p q : List Int) (hp : IsPerm p) (hq : IsPerm q) (hl : p.length = q.length) (hn : p.length ≤ 24) : ∀ (d a : Nat) (out : List Int), p.length + 1 ≤ a + d → a ≤ out.length → Few p.length out →
  Ev (fun k => spec_l02Reach.l0 k p q out (a : Int)) (reachF p q d out a) := by
 intro d
 induction d with
 | zero => intro a out h ha hf; have := hf.len; omega
 | succ d ih =>
  intro a out h ha hf
  have len := hf.len
  refine Ev.step (fun k => by rw [spec_l02Reach.l0]) ?_
  rw [reachF]
  by_cases c : a < out.length
  ·rw [if_pos c]
   have m := rd_mem c
   have x0 := hf.lo _ m
   have x1 := hf.hi _ m
   have bp := rd_perm hp x0 x1
   have bq := rd_perm hq x0 (by omega)
   have f1 := hf.add bp.1 bp.2
   have f2 := f1.add bq.1 (by omega)
   have l1 := addNew_length out (rd p (rd out (a : Int)))
   have l2 := addNew_length (addNew out (rd p (rd out (a : Int)))) (rd q (rd out (a : Int)))
   have n1 := f1.len
   have n2 := f2.len
   have next := ih (a + 1) _ (by omega) (by omega) f2
   refine Ev.pos (by omega) (Ev.pos (by omega) (Ev.pos x0 (Ev.pos x1 (Ev.pos (by omega) (Ev.plain rfl ?_)))))
   generalize rd p (rd out (a : Int)) = x at *
   generalize rd q (rd out (a : Int)) = y at *
   have r0 : rd [x, y] 0 = x := rfl
   have r1 : rd [x, y] 1 = y := rfl
   have tail : ∀ o : List Int, o.length ≤ 24 → addNew o y = addNew (addNew out x) y → Ev (fun k => spec_l02Reach.l1 k p q o (a : Int) [x, y] 2 1) (reachF p q d (addNew (addNew out x) y) (a + 1)) := by
    intro o ho e
    refine Ev.step (fun k => by rw [spec_l02Reach.l1]) (Ev.pos (by omega) (Ev.pos (by omega) (Ev.pos (by simp) ?_)))
    rw [r1]
    refine Ev.bind (spec_has_ev o y (by omega)) ?_
    by_cases b : o.contains y = true
    ·refine Ev.pos b (Ev.step (fun k => by rw [spec_l02Reach.l1]) (Ev.neg (by rw [wr2]; omega) ?_))
     rw [w64n (by omega)]
     rw [addNew, if_pos b] at e
     rw [e]; exact next
    ·refine Ev.neg b (Ev.pos (by omega) (Ev.step (fun k => by rw [spec_l02Reach.l1]) (Ev.neg (by rw [wr2]; omega) ?_)))
     rw [w64n (by omega)]
     rw [addNew, if_neg b] at e
     rw [e]; exact next
   refine Ev.step (fun k => by rw [spec_l02Reach.l1]) (Ev.pos (by simp) (Ev.pos (by omega) (Ev.pos (by simp) ?_)))
   rw [r0, wr1]
   refine Ev.bind (spec_has_ev out x (by omega)) ?_
   by_cases b : out.contains x = true
   ·refine Ev.pos b ?_
    exact tail out (by omega) (by rw [show addNew out x = out by rw [addNew, if_pos b]])
   ·refine Ev.neg b (Ev.pos (by omega) ?_)
    have e : addNew out x = out ++ [x] := by rw [addNew, if_neg b]
    rw [← e]
    exact tail _ (by omega) rfl
  ·rw [if_neg c]
   exact Ev.neg (by omega) (Ev.now _)
theorem spec_l02Reach_ev (p q : List Int) (hp : IsPerm p) (hq : IsPerm q) (hl : p.length = q.length) (hn : p.length ≤ 24) {s : Int} (h0 : 0 ≤ s) (h1 : s < (p.length : Int)) : Ev (fun k => spec_l02Reach.f k p q s) (reachL p q s) :=
 Ev.same (fun k => by rw [spec_l02Reach.f]; rfl) (spec_reach_loop p q hp hq hl hn (p.length + 1) 0 [s] (by omega) (by simp) (few_one h0 h1))

end Go.Proofs.Ytlohmpgbjgidpab.Q
namespace Go.Proofs.Ytlohmpgbjgidpab.Q
open Go.RowKit Go.Proofs.Ytlohmpgbjgidpab.P Go.Proofs.YtlohmpgbjgidpabW.PrintWords Go.Proofs.YtlohmpgbjgidpabW.PrintLast
/- The two IsTransitive functions tell whether every square is met from the first one. -/
theorem seen_set {seen : List Bool} {out : List Int} {n : Nat} (hl : seen.length = n) (hs : ∀ x : Int, 0 ≤ x → x < (n : Int) → rdOf false seen x = out.contains x) {y : Int} (h0 : 0 ≤ y) (h1 : y < (n : Int)) :
  ∀ x : Int, 0 ≤ x → x < (n : Int) → rdOf false (seen.set y.toNat true) x = (out ++ [y]).contains x := by
 intro x x0 x1
 have := hs x x0 x1
 simp only [rdOf] at this ⊢
 by_cases e : x = y
 ·subst e
  have hlt : x.toNat < seen.length := by omega
  simp [List.getD, hlt]
 ·have hne : y.toNat ≠ x.toNat := by omega
  have h4 : (out ++ [y]).contains x = out.contains x := by simp [e]
  rw [h4, ← this]
  simp [List.getD, List.getElem?_set_ne hne]
theorem impl_trans_loop (p q : List Int) (hp : IsPerm p) (hq : IsPerm q) (hl : p.length = q.length) (hn : p.length ≤ 24) : ∀ (d a : Nat) (out : List Int) (seen : List Bool), p.length + 1 ≤ a + d → a ≤ out.length → Few p.length out →
  seen.length = p.length → (∀ x : Int, 0 ≤ x → x < (p.length : Int) → rdOf false seen x = out.contains x) →
  Ev (fun k => impl_IsTransitive.l0 k p q seen out (a : Int)) (decide ((reachF p q d out a).length = p.length)) := by
 intro d
 induction d with
 | zero => intro a out seen h ha hf; have := hf.len; omega
 | succ d ih =>
  intro a out seen h ha hf sl hs
  have len := hf.len
  refine Ev.step (fun k => by rw [impl_IsTransitive.l0]) ?_
  rw [reachF]
  by_cases c : a < out.length
  ·rw [if_pos c]
   have m := rd_mem c
   have x0 := hf.lo _ m
   have x1 := hf.hi _ m
   have bp := rd_perm hp x0 x1
   have bq := rd_perm hq x0 (by omega)
   have f1 := hf.add bp.1 bp.2
   have f2 := f1.add bq.1 (by omega)
   have l1 := addNew_length out (rd p (rd out (a : Int)))
   have l2 := addNew_length (addNew out (rd p (rd out (a : Int)))) (rd q (rd out (a : Int)))
   have n1 := f1.len
   have n2 := f2.len
   have next := fun s => ih (a + 1) _ s (by omega) (by omega) f2
   refine Ev.pos (by omega) (Ev.pos (by omega) (Ev.pos x0 (Ev.pos x1 (Ev.pos (by omega) (Ev.plain rfl ?_)))))
   rw [← hl] at bq
   generalize rd p (rd out (a : Int)) = x at *
   generalize rd q (rd out (a : Int)) = y at *
   have r0 : rd [x, y] 0 = x := rfl
   have r1 : rd [x, y] 1 = y := rfl
   have tail : ∀ (o : List Int) (s : List Bool), o.length ≤ 24 → addNew o y = addNew (addNew out x) y → s.length = p.length → (∀ x : Int, 0 ≤ x → x < (p.length : Int) → rdOf false s x = o.contains x) →
     Ev (fun k => impl_IsTransitive.l1 k p q s o (a : Int) [x, y] 2 1) (decide ((reachF p q d (addNew (addNew out x) y) (a + 1)).length = p.length)) := by
    intro o s ho e hsl hso
    refine Ev.step (fun k => by rw [impl_IsTransitive.l1]) (Ev.pos (by omega) (Ev.pos (by omega) (Ev.pos (by simp) ?_)))
    rw [r1]
    refine Ev.pos (by omega) (Ev.pos (by omega) ?_)
    rw [hso y bq.1 bq.2]
    by_cases b : o.contains y = true
    ·refine Ev.pos b (Ev.step (fun k => by rw [impl_IsTransitive.l1]) (Ev.neg (by rw [wr2]; omega) ?_))
     rw [w64n (by omega)]
     rw [addNew, if_pos b] at e
     rw [← e] at next
     rw [← e]
     exact next s hsl hso
    ·refine Ev.neg b (Ev.pos (by omega) (Ev.step (fun k => by rw [impl_IsTransitive.l1]) (Ev.neg (by rw [wr2]; omega) ?_)))
     rw [w64n (by omega)]
     rw [addNew, if_neg b] at e
     rw [← e] at next
     rw [← e]
     exact next _ (by rw [List.length_set, hsl]) (seen_set hsl hso bq.1 bq.2)
   refine Ev.step (fun k => by rw [impl_IsTransitive.l1]) (Ev.pos (by simp) (Ev.pos (by omega) (Ev.pos (by simp) ?_)))
   rw [r0, wr1]
   refine Ev.pos (by omega) (Ev.pos (by omega) ?_)
   rw [hs x bp.1 bp.2]
   by_cases b : out.contains x = true
   ·refine Ev.pos b ?_
    exact tail out seen (by omega) (by rw [show addNew out x = out by rw [addNew, if_pos b]]) sl hs
   ·refine Ev.neg b (Ev.pos (by omega) ?_)
    have e : addNew out x = out ++ [x] := by rw [addNew, if_neg b]
    have ss := seen_set sl hs bp.1 bp.2
    rw [← e] at ss ⊢
    exact tail _ _ (by omega) rfl (by rw [List.length_set, sl]) ss
  ·rw [if_neg c]
   refine Ev.neg (by omega) ?_
   rw [show ((out.length : Int) == (p.length : Int)) = decide (out.length = p.length) by rw [Bool.eq_iff_iff]; simp; omega]
   exact Ev.now _
/-- What IsTransitive returns. -/
def transB (p q : List Int) : Bool := permB p && (permB q && (decide (p.length = q.length) && (decide (0 < p.length) && decide ((reachL p q 0).length = p.length))))
theorem spec_IsTransitive_ev (p q : List Int) (hp : p.length < 9223372036854775807) (hq : q.length < 9223372036854775807) : Ev (fun k => spec_IsTransitive.f k p q) (transB p q) := by
 refine Ev.same (fun k => by rw [spec_IsTransitive.f]) (Ev.bind (spec_PermOk_ev p hp) ?_)
 unfold transB
 by_cases h : permB p = true
 ·refine Ev.pos h (Ev.bind (spec_PermOk_ev q hq) ?_)
  rw [h, Bool.true_and]
  by_cases h' : permB q = true
  ·rw [h', Bool.true_and]
   refine Ev.pos rfl ?_
   by_cases e : p.length = q.length
   ·rw [decide_eq_true e, Bool.true_and]
    refine Ev.pos (by omega) ?_
    by_cases z : 0 < p.length
    ·rw [decide_eq_true z, Bool.true_and]
     have a := (permB_iff p).1 h
     have b := (permB_iff q).1 h'
     refine Ev.pos (by omega) (Ev.bind (spec_l02Reach_ev p q a.2 b.2 e a.1 (s := 0) (by omega) (by omega)) ?_)
     rw [show (((reachL p q 0).length : Int) == (p.length : Int)) = decide ((reachL p q 0).length = p.length) by rw [Bool.eq_iff_iff]; simp; omega]
     exact Ev.now _
    ·rw [decide_eq_false z, Bool.false_and]
     exact Ev.neg (by omega) (Ev.now _)
   ·rw [decide_eq_false e, Bool.false_and]
    exact Ev.neg (by omega) (Ev.now _)
  ·rw [show permB q = false by simpa using h', Bool.false_and]
   exact Ev.neg (by simp) (Ev.now _)
 ·rw [show permB p = false by simpa using h, Bool.false_and]
  exact Ev.neg (by simp) (Ev.now _)
theorem impl_IsTransitive_ev (p q : List Int) : Ev (fun k => impl_IsTransitive.f k p q) (transB p q) := by
 have no : Ev (fun k => impl_IsTransitive.j0 k p q true) false := Ev.step (fun k => by rw [impl_IsTransitive.j0]) (Ev.pos rfl (Ev.now _))
 refine Ev.same (fun k => by rw [impl_IsTransitive.f]) (Ev.plain (impl_PermOk_some p) ?_)
 unfold transB
 by_cases h : permB p = true
 ·refine Ev.pos h (Ev.plain (impl_PermOk_some q) ?_)
  rw [h, Bool.true_and]
  by_cases h' : permB q = true
  ·rw [h', Bool.true_and]
   refine Ev.pos rfl ?_
   by_cases e : p.length = q.length
   ·rw [decide_eq_true e, Bool.true_and]
    refine Ev.pos (by omega) ?_
    by_cases z : 0 < p.length
    ·rw [decide_eq_true z, Bool.true_and, show ((p.length : Int) == 0) = false by rw [beq_eq_false_iff_ne]; omega]
     have a := (permB_iff p).1 h
     have b := (permB_iff q).1 h'
     refine Ev.step (fun k => by rw [impl_IsTransitive.j0]) (Ev.neg (by simp) (Ev.pos (by omega) (Ev.pos (by omega) (Ev.plain rfl ?_))))
     refine Ev.pos (by simp; omega) ?_
     refine impl_trans_loop p q a.2 b.2 e a.1 (p.length + 1) 0 [0] _ (by omega) (by simp) (few_one (by omega) (by omega)) (by simp) ?_
     have := seen_set (seen := List.replicate p.length false) (out := []) (n := p.length) (by simp) (fun x _ _ => by rw [rd_false]; rfl) (y := 0) (by omega) (by omega)
     simpa using this
    ·rw [decide_eq_false z, Bool.false_and, show ((p.length : Int) == 0) = true by rw [beq_iff_eq]; omega]
     exact no
   ·rw [decide_eq_false e, Bool.false_and]
    exact Ev.neg (by omega) no
  ·rw [show permB q = false by simpa using h', Bool.false_and]
   exact Ev.neg (by simp) no
 ·rw [show permB p = false by simpa using h, Bool.false_and]
  exact Ev.neg (by simp) no

end Go.Proofs.Ytlohmpgbjgidpab.Q
namespace Go.Proofs.Ytlohmpgbjgidpab.Q
open Go.RowKit Go.Proofs.Ytlohmpgbjgidpab.P Go.Proofs.YtlohmpgbjgidpabW.PrintWords Go.Proofs.YtlohmpgbjgidpabW.PrintLast
/- The two SurfaceOk functions. -/
theorem spec_SurfaceOk_ev (r u : List Int) (hr : r.length < 9223372036854775807) (hu : u.length < 9223372036854775807) : Ev (fun k => spec_SurfaceOk.f k r u) (transB r u) :=
 Ev.same (fun k => by rw [spec_SurfaceOk.f]) (Ev.bind (spec_IsTransitive_ev r u hr hu) (Ev.now _))
theorem impl_SurfaceOk_ev (r u : List Int) : Ev (fun k => impl_SurfaceOk.f k r u) (transB r u) :=
 Ev.same (fun k => by rw [impl_SurfaceOk.f]) (Ev.bind (impl_IsTransitive_ev r u) (Ev.now _))
/-- What is known of a valid surface. -/
structure IsSurf (r u : List Int) : Prop where
 right : IsPerm r
 up : IsPerm u
 same : r.length = u.length
 pos : 0 < r.length
 le : r.length ≤ 24
 all : (reachL r u 0).length = r.length
theorem transB_iff (r u : List Int) : transB r u = true ↔ IsSurf r u := by
 unfold transB
 simp only [Bool.and_eq_true, decide_eq_true_eq, permB_iff]
 exact ⟨fun ⟨⟨a, b⟩, ⟨_, d⟩, e, f, g⟩ => ⟨b, d, e, f, a, g⟩, fun ⟨a, b, c, d, e, f⟩ => ⟨⟨e, a⟩, ⟨by omega, b⟩, c, d, f⟩⟩

end Go.Proofs.Ytlohmpgbjgidpab.Q
namespace Go.Proofs.Ytlohmpgbjgidpab.Q
open Go.RowKit Go.Proofs.Ytlohmpgbjgidpab.P Go.Proofs.YtlohmpgbjgidpabW.PrintWords Go.Proofs.YtlohmpgbjgidpabW.PrintLast
/- What the four moves make of a valid surface. -/
def shearV (r u : List Int) : List Int × List Int := (r, thenL (invL r) u)
theorem IsSurf.permR {r u : List Int} (h : IsSurf r u) : permB r = true := (permB_iff r).2 ⟨h.le, h.right⟩
theorem IsSurf.permU {r u : List Int} (h : IsSurf r u) : permB u = true := (permB_iff u).2 ⟨by have := h.same; have := h.le; omega, h.up⟩
theorem IsSurf.permI {r u : List Int} (h : IsSurf r u) : permB (invL r) = true := (permB_iff _).2 ⟨by rw [invL_length]; exact h.le, h.right.inv⟩
theorem IsSurf.leU {r u : List Int} (h : IsSurf r u) : u.length ≤ 24 := by have := h.same; have := h.le; omega
theorem perm_in {p q : List Int} (h : IsPerm p) (hl : p.length = q.length) : ∀ (i : Nat) (hi : i < p.length), 0 ≤ p[i] ∧ p[i] < (q.length : Int) := fun i hi => ⟨h.get_lo hi, by have := h.get_hi hi; omega⟩

end Go.Proofs.Ytlohmpgbjgidpab.Q
namespace Go.Proofs.Ytlohmpgbjgidpab.Q
open Go.RowKit Go.Proofs.Ytlohmpgbjgidpab.P Go.Proofs.YtlohmpgbjgidpabW.PrintWords Go.Proofs.YtlohmpgbjgidpabW.PrintLast
/- The permutation of one round. -/
def aroundL (r u : List Int) : List Int := thenL (thenL r u) (thenL (invL r) (invL u))
theorem aroundL_length (r u : List Int) : (aroundL r u).length = r.length := by simp [aroundL, thenL_length]
theorem aroundL_perm {r u : List Int} (h : IsSurf r u) : IsPerm (aroundL r u) :=
 (h.right.then h.up h.same).then (h.right.inv.then h.up.inv (by rw [invL_length, invL_length, h.same])) (by rw [thenL_length, thenL_length, invL_length])
def aroundB (r u : List Int) : List Int := if transB r u = true then aroundL r u else []

end Go.Proofs.Ytlohmpgbjgidpab.Q
namespace Go.Proofs.Ytlohmpgbjgidpab.Q
open Go.RowKit Go.Proofs.Ytlohmpgbjgidpab.P Go.Proofs.YtlohmpgbjgidpabW.PrintWords Go.Proofs.YtlohmpgbjgidpabW.PrintLast
/- A list that is filled place by place along a permutation. -/
def fillAt (q : List Int) (g : Nat → Int) (i : Nat) : List Int := (List.range q.length).map fun (j : Nat) => if posOf q (j : Int) < i then g (posOf q (j : Int)) else 0
theorem fillAt_length (q : List Int) (g : Nat → Int) (i : Nat) : (fillAt q g i).length = q.length := by simp [fillAt]
theorem fillAt_get (q : List Int) (g : Nat → Int) (i : Nat) {j : Nat} (h : j < q.length) : (fillAt q g i)[j]'(by rw [fillAt_length]; exact h) = if posOf q (j : Int) < i then g (posOf q (j : Int)) else 0 := by simp [fillAt]
theorem fillAt_zero (q : List Int) (g : Nat → Int) : fillAt q g 0 = List.replicate q.length 0 := by
 apply List.ext_getElem (by rw [fillAt_length, List.length_replicate])
 intro j h1 h2
 rw [fillAt_length] at h1
 rw [fillAt_get q g 0 h1]
 simp
theorem fillAt_set {q : List Int} (hq : IsPerm q) (g : Nat → Int) {i : Nat} (hi : i < q.length) : (fillAt q g i).set (q[i]).toNat (g i) = fillAt q g (i + 1) := by
 apply List.ext_getElem (by rw [List.length_set, fillAt_length, fillAt_length])
 intro j h1 h2
 rw [fillAt_length] at h2
 rw [fillAt_get q g (i + 1) h2, List.getElem_set]
 have m := hq.mem (j := (j : Int)) (by omega) (by omega)
 have a := posOf_get m
 have l0 := hq.get_lo hi
 split
 ·rename_i e
  have e2 : (j : Int) = q[i] := by omega
  rw [e2, hq.posOf_at hi]
  simp
 ·rename_i e
  rw [fillAt_get q g i h2]
  have hne : posOf q (j : Int) ≠ i := by
   intro e2
   simp only [e2] at a
   omega
  by_cases c : posOf q (j : Int) < i
  ·rw [if_pos c, if_pos (by omega)]
  ·rw [if_neg c, if_neg (by omega)]
theorem fill_inv {p : List Int} (hp : IsPerm p) : fillAt p (fun i => (i : Int)) p.length = invL p := by
 apply List.ext_getElem (by rw [fillAt_length, invL_length])
 intro j h1 h2
 rw [invL_length] at h2
 rw [fillAt_get p _ _ h2, invL_get p h2]
 exact if_pos (posOf_lt (hp.mem (by omega) (by omega)))

end Go.Proofs.Ytlohmpgbjgidpab.Q
namespace Go.Proofs.Ytlohmpgbjgidpab.Q
open Go.RowKit Go.Proofs.Ytlohmpgbjgidpab.P Go.Proofs.YtlohmpgbjgidpabW.PrintWords Go.Proofs.YtlohmpgbjgidpabW.PrintLast
/- The two InversePerm functions. -/
theorem spec_inv2_loop (p : List Int) (hp : IsPerm p) (hn : p.length ≤ 24) : ∀ (d i : Nat), i + d = p.length →
  Ev (fun k => spec_l02Inverse.l0 k (fillAt p (fun i => (i : Int)) i) p (p.length : Int) i) (invL p) := by
 intro d
 induction d with
 | zero =>
  intro i h
  refine Ev.step (fun k => by rw [spec_l02Inverse.l0]) (Ev.neg (by omega) ?_)
  rw [show i = p.length by omega, fill_inv hp]
  exact Ev.now _
 | succ d ih =>
  intro i h
  have a := hp.get_lo (i := i) (by omega)
  have b := hp.get_hi (i := i) (by omega)
  refine Ev.step (fun k => by rw [spec_l02Inverse.l0]) ?_
  rw [rdg (by omega), w64n (by omega)]
  rw [fillAt_length, fillAt_set hp (fun i => (i : Int)) (by omega)]
  refine Ev.pos (by omega) (Ev.pos (by omega) (Ev.pos (by omega) (Ev.pos (by omega) (Ev.pos (by omega) ?_))))
  exact ih (i + 1) (by omega)
theorem spec_l02Inverse_ev (p : List Int) (hp : IsPerm p) (hn : p.length ≤ 24) : Ev (fun k => spec_l02Inverse.f k p) (invL p) := by
 refine Ev.same (fun k => by rw [spec_l02Inverse.f]) (Ev.pos (by omega) (Ev.pos (by omega) ?_))
 have := spec_inv2_loop p hp hn p.length 0 (by omega)
 rw [fillAt_zero] at this
 simpa using this
/-- What InversePerm returns. -/
def invB (p : List Int) : List Int := if permB p = true then invL p else []
theorem impl_inv2_loop (p : List Int) (hp : IsPerm p) (hn : p.length ≤ 24) : ∀ (d i : Nat), i + d = p.length →
  Ev (fun k => impl_InversePerm.l0 k (fillAt p (fun i => (i : Int)) i) p (p.length : Int) i) (invL p) := by
 intro d
 induction d with
 | zero =>
  intro i h
  refine Ev.step (fun k => by rw [impl_InversePerm.l0]) (Ev.neg (by omega) ?_)
  rw [show i = p.length by omega, fill_inv hp]
  exact Ev.now _
 | succ d ih =>
  intro i h
  have a := hp.get_lo (i := i) (by omega)
  have b := hp.get_hi (i := i) (by omega)
  refine Ev.step (fun k => by rw [impl_InversePerm.l0]) ?_
  rw [rdg (by omega), w64n (by omega)]
  rw [fillAt_length, fillAt_set hp (fun i => (i : Int)) (by omega)]
  refine Ev.pos (by omega) (Ev.pos (by omega) (Ev.pos (by omega) (Ev.pos (by omega) (Ev.pos (by omega) ?_))))
  exact ih (i + 1) (by omega)
theorem impl_InversePerm_ev (p : List Int) : Ev (fun k => impl_InversePerm.f k p) (invB p) := by
 refine Ev.same (fun k => by rw [impl_InversePerm.f]) (Ev.plain (impl_PermOk_some p) ?_)
 unfold invB
 by_cases h : permB p = true
 ·have h' := (permB_iff p).1 h
  rw [if_pos h]
  refine Ev.pos h (Ev.pos (by omega) (Ev.pos (by omega) ?_))
  have := impl_inv2_loop p h'.2 h'.1 p.length 0 (by omega)
  rw [fillAt_zero] at this
  simpa using this
 ·rw [if_neg h]
  exact Ev.neg h (Ev.now _)

end Go.Proofs.Ytlohmpgbjgidpab.Q
namespace Go.Proofs.Ytlohmpgbjgidpab.Q
open Go.RowKit Go.Proofs.Ytlohmpgbjgidpab.P Go.Proofs.YtlohmpgbjgidpabW.PrintWords Go.Proofs.YtlohmpgbjgidpabW.PrintLast
/- The two ThenPerm functions. -/
theorem spec_then_loop (p q : List Int) (h0 : ∀ (i : Nat) (hi : i < p.length), 0 ≤ p[i] ∧ p[i] < (q.length : Int)) (hn : p.length ≤ 24) : ∀ (d i : Nat), i + d = p.length →
  Ev (fun k => spec_l02Then.l0 k q ((thenL p q).take i) p (p.length : Int) i) (thenL p q) := by
 intro d
 induction d with
 | zero =>
  intro i h
  refine Ev.step (fun k => by rw [spec_l02Then.l0]) (Ev.neg (by omega) ?_)
  rw [List.take_of_length_le (by rw [thenL_length]; omega)]
  exact Ev.now _
 | succ d ih =>
  intro i h
  have a := h0 i (by omega)
  refine Ev.step (fun k => by rw [spec_l02Then.l0]) ?_
  rw [rdg (by omega), w64n (by omega)]
  refine Ev.pos (by omega) (Ev.pos (by omega) (Ev.pos (by omega) (Ev.pos (by omega) (Ev.pos (by omega) (Ev.pos (by rw [List.length_take]; omega) ?_)))))
  rw [← thenL_get p q (by omega), ← List.take_succ_eq_append_getElem (by rw [thenL_length]; omega)]
  exact ih (i + 1) (by omega)
theorem spec_l02Then_ev (p q : List Int) (h0 : ∀ (i : Nat) (hi : i < p.length), 0 ≤ p[i] ∧ p[i] < (q.length : Int)) (hn : p.length ≤ 24) : Ev (fun k => spec_l02Then.f k p q) (thenL p q) :=
 Ev.same (fun k => by rw [spec_l02Then.f]; rfl) (spec_then_loop p q h0 hn p.length 0 (by omega))
/-- What ThenPerm returns. -/
def thenB (p q : List Int) : List Int := if permB p = true ∧ permB q = true ∧ p.length = q.length then thenL p q else []
theorem then_in {p q : List Int} (h : permB p = true) (hl : p.length = q.length) : ∀ (i : Nat) (hi : i < p.length), 0 ≤ p[i] ∧ p[i] < (q.length : Int) := fun i hi => by
 have := ((permB_iff p).1 h).2
 exact ⟨this.get_lo hi, by have := this.get_hi hi; omega⟩
theorem impl_then_loop (p q : List Int) (h0 : ∀ (i : Nat) (hi : i < p.length), 0 ≤ p[i] ∧ p[i] < (q.length : Int)) (hn : p.length ≤ 24) : ∀ (d i : Nat) (ys : List Int), i + d = p.length → ys.length = p.length → ys.take i = (thenL p q).take i →
  Ev (fun k => impl_ThenPerm.l0 k q ys p (p.length : Int) i) (thenL p q) := by
 intro d
 induction d with
 | zero =>
  intro i ys h hl hy
  refine Ev.step (fun k => by rw [impl_ThenPerm.l0]) (Ev.neg (by omega) ?_)
  rw [List.take_of_length_le (by omega), List.take_of_length_le (by rw [thenL_length]; omega)] at hy
  rw [hy]
  exact Ev.now _
 | succ d ih =>
  intro i ys h hl hy
  have a := h0 i (by omega)
  refine Ev.step (fun k => by rw [impl_ThenPerm.l0]) ?_
  rw [rdg (by omega), w64n (by omega)]
  refine Ev.pos (by omega) (Ev.pos (by omega) (Ev.pos (by omega) (Ev.pos (by omega) (Ev.pos (by omega) (Ev.pos (by omega) ?_)))))
  rw [Int.toNat_natCast]
  refine ih (i + 1) _ (by omega) (by rw [List.length_set, hl]) ?_
  rw [List.take_succ_eq_append_getElem (by simp; omega), List.getElem_set_self, List.take_set_of_le (by omega), hy, List.take_succ_eq_append_getElem (l := thenL p q) (by rw [thenL_length]; omega), thenL_get p q (by omega)]
theorem impl_ThenPerm_ev (p q : List Int) : Ev (fun k => impl_ThenPerm.f k p q) (thenB p q) := by
 have no : Ev (fun k => impl_ThenPerm.j0 k p q true) [] := Ev.step (fun k => by rw [impl_ThenPerm.j0]) (Ev.pos rfl (Ev.now _))
 refine Ev.same (fun k => by rw [impl_ThenPerm.f]) (Ev.plain (impl_PermOk_some p) ?_)
 unfold thenB
 by_cases h : permB p = true
 ·refine Ev.pos h (Ev.plain (impl_PermOk_some q) ?_)
  by_cases h' : permB q = true
  ·refine Ev.pos h' ?_
   by_cases e : p.length = q.length
   ·rw [if_pos ⟨h, h', e⟩, show ((p.length : Int) != (q.length : Int)) = false by simp [e]]
    have hp := (permB_iff p).1 h
    refine Ev.step (fun k => by rw [impl_ThenPerm.j0]) (Ev.neg (by simp) (Ev.pos (by omega) (Ev.pos (by omega) ?_)))
    exact impl_then_loop p q (then_in h e) hp.1 p.length 0 _ (by omega) (by simp) (by simp)
   ·rw [if_neg (fun z => e z.2.2), show ((p.length : Int) != (q.length : Int)) = true by simp; omega]
    exact no
  ·rw [if_neg (fun z => h' z.2.1)]
   exact Ev.neg h' no
 ·rw [if_neg (fun z => h z.1)]
  exact Ev.neg h no

end Go.Proofs.Ytlohmpgbjgidpab.Q
namespace Go.Proofs.Ytlohmpgbjgidpab.Q
open Go.RowKit Go.Proofs.Ytlohmpgbjgidpab.P Go.Proofs.YtlohmpgbjgidpabW.PrintWords Go.Proofs.YtlohmpgbjgidpabW.PrintLast
/- The program's round. -/
theorem impl_AroundOf_ev (r u : List Int) : Ev (fun k => impl_AroundOf.f k r u) (aroundB r u) := by
 refine Ev.same (fun k => by rw [impl_AroundOf.f]) (Ev.bind (impl_SurfaceOk_ev r u) ?_)
 unfold aroundB
 by_cases h : transB r u = true
 ·rw [if_pos h]
  have s := (transB_iff r u).1 h
  have hle := s.le
  have hleU := s.leU
  have p1 : permB (thenL r u) = true := (permB_iff _).2 ⟨by rw [thenL_length]; exact s.le, s.right.then s.up s.same⟩
  have pu : permB (invL u) = true := (permB_iff _).2 ⟨by rw [invL_length]; exact s.leU, s.up.inv⟩
  have e1 : (invL r).length = (invL u).length := by rw [invL_length, invL_length, s.same]
  have p2 : permB (thenL (invL r) (invL u)) = true := (permB_iff _).2 ⟨by rw [thenL_length, invL_length]; exact s.le, s.right.inv.then s.up.inv e1⟩
  refine Ev.pos h (Ev.bind (impl_ThenPerm_ev r u) ?_)
  rw [thenB, if_pos ⟨s.permR, s.permU, s.same⟩]
  refine Ev.bind (impl_InversePerm_ev r) ?_
  rw [invB, if_pos s.permR]
  refine Ev.bind (impl_InversePerm_ev u) ?_
  rw [invB, if_pos s.permU]
  refine Ev.bind (impl_ThenPerm_ev (invL r) (invL u)) ?_
  rw [thenB, if_pos ⟨s.permI, pu, e1⟩]
  refine Ev.bind (impl_ThenPerm_ev (thenL r u) (thenL (invL r) (invL u))) ?_
  rw [thenB, if_pos ⟨p1, p2, by rw [thenL_length, thenL_length, invL_length]⟩]
  exact Ev.now _
 ·rw [if_neg h]
  exact Ev.neg h (Ev.now _)

end Go.Proofs.Ytlohmpgbjgidpab.Q
namespace Go.Proofs.Ytlohmpgbjgidpab.Q
open Go.RowKit Go.Proofs.Ytlohmpgbjgidpab.P Go.Proofs.YtlohmpgbjgidpabW.PrintWords Go.Proofs.YtlohmpgbjgidpabW.PrintLast
/- From every square of a valid surface all squares are met. -/
theorem sub_len : ∀ (l m : List Int), l.Nodup → (∀ x ∈ l, x ∈ m) → l.length ≤ m.length
 | [], m, _, _ => by simp
 | x :: r, m, hd, hs => by
  have hx := hs x (by simp)
  have := sub_len r (m.erase x) (List.nodup_cons.1 hd).2 (fun y hy => by
   have hne : y ≠ x := fun e => (List.nodup_cons.1 hd).1 (e ▸ hy)
   exact (List.mem_erase_of_ne hne).2 (hs y (by simp [hy])))
  rw [List.length_erase_of_mem hx] at this
  have : 0 < m.length := List.length_pos_of_mem hx
  simp only [List.length_cons]
  omega
theorem nodup_map {l : List Int} {f : Int → Int} (h : l.Nodup) (hf : ∀ x ∈ l, ∀ y ∈ l, f x = f y → x = y) : (l.map f).Nodup := by
 apply nodup_of_inj
 intro i j hi hj e
 rw [List.length_map] at hi hj
 rw [List.getElem_map, List.getElem_map] at e
 have e2 := hf _ (List.getElem_mem hi) _ (List.getElem_mem hj) e
 have H := List.pairwise_iff_getElem.1 h
 rcases Nat.lt_trichotomy i j with hlt | he | hgt
 ·exact absurd e2 (H i j hi hj hlt)
 ·exact he
 ·exact absurd e2.symm (H j i hj hi hgt)
/-- A map that is one to one on a list and stays in it meets all of it. -/
theorem onto {l : List Int} {f : Int → Int} (h : l.Nodup) (hf : ∀ x ∈ l, ∀ y ∈ l, f x = f y → x = y) (hm : ∀ x ∈ l, f x ∈ l) {y : Int} (hy : y ∈ l) : ∃ x ∈ l, f x = y := by
 apply Classical.byContradiction
 intro hn
 have hd : (y :: l.map f).Nodup := List.nodup_cons.2 ⟨fun hc => by obtain ⟨x, hx, e⟩ := List.mem_map.1 hc; exact hn ⟨x, hx, e⟩, nodup_map h hf⟩
 have := sub_len (y :: l.map f) l hd (fun z hz => by
  rcases List.mem_cons.1 hz with rfl | hz
  ·exact hy
  ·obtain ⟨x, hx, rfl⟩ := List.mem_map.1 hz; exact hm x hx)
 simp only [List.length_cons, List.length_map] at this
 omega
theorem rd_inj {p : List Int} (hp : IsPerm p) {x y : Int} (x0 : 0 ≤ x) (x1 : x < (p.length : Int)) (y0 : 0 ≤ y) (y1 : y < (p.length : Int)) (e : rd p x = rd p y) : x = y := by
 rw [rd_of x0 x1, rd_of y0 y1] at e
 have := hp.inj (by omega) (by omega) e
 omega

end Go.Proofs.Ytlohmpgbjgidpab.Q
namespace Go.Proofs.Ytlohmpgbjgidpab.Q
open Go.RowKit Go.Proofs.Ytlohmpgbjgidpab.P Go.Proofs.YtlohmpgbjgidpabW.PrintWords Go.Proofs.YtlohmpgbjgidpabW.PrintLast
/- A permutation, applied many times. -/
def powP (p : List Int) : Nat → Int → Int
 | 0, x => x
 | n + 1, x => rd p (powP p n x)
theorem powP_in {p : List Int} (hp : IsPerm p) {x : Int} (h0 : 0 ≤ x) (h1 : x < (p.length : Int)) : ∀ n, 0 ≤ powP p n x ∧ powP p n x < (p.length : Int)
 | 0 => ⟨h0, h1⟩
 | n + 1 => rd_perm hp (powP_in hp h0 h1 n).1 (powP_in hp h0 h1 n).2
theorem powP_add (p : List Int) (x : Int) (m : Nat) : ∀ n, powP p (m + n) x = powP p n (powP p m x)
 | 0 => rfl
 | n + 1 => by rw [← Nat.add_assoc, powP, powP, powP_add p x m n]
theorem powP_inj {p : List Int} (hp : IsPerm p) {x y : Int} (x0 : 0 ≤ x) (x1 : x < (p.length : Int)) (y0 : 0 ≤ y) (y1 : y < (p.length : Int)) : ∀ n, powP p n x = powP p n y → x = y
 | 0, e => e
 | n + 1, e => by
  have a := powP_in hp x0 x1 n
  have b := powP_in hp y0 y1 n
  exact powP_inj hp x0 x1 y0 y1 n (rd_inj hp a.1 a.2 b.1 b.2 e)

end Go.Proofs.Ytlohmpgbjgidpab.Q
namespace Go.Proofs.Ytlohmpgbjgidpab.Q
open Go.RowKit Go.Proofs.Ytlohmpgbjgidpab.P Go.Proofs.YtlohmpgbjgidpabW.PrintWords Go.Proofs.YtlohmpgbjgidpabW.PrintLast
/- The cycles of a permutation: what both functions walk through. -/
def cycF (p : List Int) : Nat → List Bool → Int → List Int → List Bool × List Int
 | 0, seen, _, cyc => (seen, cyc)
 | d + 1, seen, x, cyc => if rdOf false seen x = true then (seen, cyc) else cycF p d (seen.set x.toNat true) (rd p x) (cyc ++ [x])
def cycO (p : List Int) : Nat → Nat → List Bool → List (List Int) → List (List Int)
 | 0, _, _, out => out
 | d + 1, i, seen, out => if rdOf false seen (i : Int) = true then cycO p d (i + 1) seen out else cycO p d (i + 1) (cycF p (p.length + 1) seen (i : Int) []).1 (out ++ [(cycF p (p.length + 1) seen (i : Int) []).2])
def cycL (p : List Int) : List (List Int) := cycO p p.length 0 (List.replicate p.length false) []
def cycB (p : List Int) : List (List Int) := if permB p = true then cycL p else []
theorem count_seen {seen : List Bool} {x : Int} (h0 : 0 ≤ x) (h1 : x < (seen.length : Int)) (h : ¬ rdOf false seen x = true) : (seen.set x.toNat true).count false + 1 = seen.count false := by
 obtain ⟨j, rfl⟩ := Int.eq_ofNat_of_zero_le h0
 have hj : j < seen.length := by omega
 have hf : seen[j] = false := by simpa [rdOf, hj] using h
 have hm : false ∈ seen := hf ▸ List.getElem_mem hj
 have hp : 0 < seen.count false := List.count_pos_iff.2 hm
 rw [Int.toNat_natCast, List.count_set hj, hf]
 simp
 omega
theorem cycF_seen (p : List Int) : ∀ (d : Nat) (seen : List Bool) (x : Int) (cyc : List Int), (cycF p d seen x cyc).1.length = seen.length ∧ cyc.length ≤ (cycF p d seen x cyc).2.length
 | 0, _, _, _ => ⟨rfl, Nat.le_refl _⟩
 | d + 1, seen, x, cyc => by
  rw [cycF]
  split
  ·exact ⟨rfl, Nat.le_refl _⟩
  ·have := cycF_seen p d (seen.set x.toNat true) (rd p x) (cyc ++ [x])
   rw [List.length_set, List.length_append] at this
   exact ⟨this.1, by omega⟩
theorem cycF_pos (p : List Int) (d : Nat) (seen : List Bool) (x : Int) (h : ¬ rdOf false seen x = true) : 0 < (cycF p (d + 1) seen x []).2.length := by
 rw [cycF, if_neg h]
 have := (cycF_seen p d (seen.set x.toNat true) (rd p x) ([] ++ [x])).2
 simp only [List.nil_append, List.length_cons, List.length_nil] at this ⊢
 omega

end Go.Proofs.Ytlohmpgbjgidpab.Q
namespace Go.Proofs.Ytlohmpgbjgidpab.Q
open Go.RowKit Go.Proofs.Ytlohmpgbjgidpab.P Go.Proofs.YtlohmpgbjgidpabW.PrintWords Go.Proofs.YtlohmpgbjgidpabW.PrintLast
/- What the cycles of a permutation are: every number lies in one cycle alone; how many cycles there are of each length. -/
/-- A cycle: a number, what follows it, and so on till it comes back. -/
structure IsCyc (p c : List Int) : Prop where
 nodup : c.Nodup
 inn : ∀ x ∈ c, 0 ≤ x ∧ x < (p.length : Int)
 pos : 0 < c.length
 ex : ∃ a : Int, c = (List.range c.length).map (fun j => powP p j a) ∧ powP p c.length a = a
theorem range_nodup {m : Nat} {f : Nat → Int} (h : ((List.range m).map f).Nodup) {i j : Nat} (hi : i < m) (hj : j < m) (e : f i = f j) : i = j := by
 have H := List.pairwise_iff_getElem.1 h
 rcases Nat.lt_trichotomy i j with l | l | l
 ·exact absurd (by rw [List.getElem_map, List.getElem_map, List.getElem_range, List.getElem_range]; exact e) (H i j (by simpa using hi) (by simpa using hj) l)
 ·exact l
 ·exact absurd (by rw [List.getElem_map, List.getElem_map, List.getElem_range, List.getElem_range]; exact e.symm) (H j i (by simpa using hj) (by simpa using hi) l)
theorem rdOf_set {seen : List Bool} {x y : Int} (h0 : 0 ≤ x) (h1 : x < (seen.length : Int)) (y0 : 0 ≤ y) : rdOf false (seen.set x.toNat true) y = true ↔ y = x ∨ rdOf false seen y = true := by
 obtain ⟨i, rfl⟩ := Int.eq_ofNat_of_zero_le h0
 obtain ⟨j, rfl⟩ := Int.eq_ofNat_of_zero_le y0
 have hi : i < seen.length := by omega
 by_cases e : j = i
 ·subst e
  simp [rdOf, List.getD_eq_getElem?_getD, hi]
 ·have e' : ¬ (j : Int) = (i : Int) := by omega
  simp [rdOf, List.getD_eq_getElem?_getD, List.getElem?_set, e', Ne.symm e]
theorem cycF_spec {p : List Int} (hp : IsPerm p) (T : Int → Prop) {a : Int} (a0 : 0 ≤ a) (a1 : a < (p.length : Int)) (hT : ∀ m, ¬ T (powP p m a)) :
  ∀ (d : Nat) (seen : List Bool) (m : Nat) (cyc : List Int), seen.length = p.length → cyc = (List.range m).map (fun j => powP p j a) → cyc.Nodup →
  (∀ y : Int, 0 ≤ y → y < (p.length : Int) → (rdOf false seen y = true ↔ T y ∨ y ∈ cyc)) → seen.count false < d →
  IsCyc p (cycF p d seen (powP p m a) cyc).2 ∧ (∃ m', (cycF p d seen (powP p m a) cyc).2 = (List.range m').map (fun j => powP p j a)) ∧ (cycF p d seen (powP p m a) cyc).1.length = p.length ∧
  (∀ y : Int, 0 ≤ y → y < (p.length : Int) → (rdOf false (cycF p d seen (powP p m a) cyc).1 y = true ↔ T y ∨ y ∈ (cycF p d seen (powP p m a) cyc).2)) := by
 intro d
 induction d with
 | zero => intro seen m cyc _ _ _ _ h; omega
 | succ d ih =>
  intro seen m cyc hl hc hd hs hf
  have bd := powP_in hp a0 a1 m
  rw [cycF]
  by_cases c : rdOf false seen (powP p m a) = true
  ·rw [if_pos c]
   have hx := ((hs _ bd.1 bd.2).1 c).resolve_left (hT m)
   have hlen : cyc.length = m := by rw [hc]; simp
   obtain ⟨j, hj, e⟩ : ∃ j, j < m ∧ powP p j a = powP p m a := by
    rw [hc] at hx
    obtain ⟨j, hj, e⟩ := List.mem_map.1 hx
    exact ⟨j, List.mem_range.1 hj, e⟩
   have back : powP p (m - j) a = a := by
    have b := powP_in hp a0 a1 (m - j)
    refine powP_inj hp b.1 b.2 a0 a1 j ?_
    rw [← powP_add, show m - j + j = m by omega, e]
   have j0 : j = 0 := by
    apply Classical.byContradiction
    intro hj0
    have z := range_nodup (hc ▸ hd) (i := m - j) (j := 0) (by omega) (by omega) back
    omega
   subst j0
   refine ⟨⟨hd, fun x hx => ?_, by show 0 < cyc.length; omega, a, by show cyc = _; rw [hlen]; exact hc, by show powP p cyc.length a = a; rw [hlen]; simpa using back⟩, ⟨m, hc⟩, hl, hs⟩
   rw [hc] at hx
   obtain ⟨j, hj, rfl⟩ := List.mem_map.1 hx
   exact powP_in hp a0 a1 j
  ·rw [if_neg c]
   have hn : powP p m a ∉ cyc := fun h => c ((hs _ bd.1 bd.2).2 (.inr h))
   have cs := count_seen bd.1 (by rw [hl]; exact bd.2) c
   refine ih (seen.set (powP p m a).toNat true) (m + 1) (cyc ++ [powP p m a]) (by rw [List.length_set, hl]) ?_ ?_ ?_ (by omega)
   ·rw [List.range_succ, List.map_append, ← hc]
    rfl
   ·exact List.nodup_append.2 ⟨hd, by simp, fun x hx y hy e => by rw [List.mem_singleton] at hy; exact hn (hy ▸ e ▸ hx)⟩
   ·intro y y0 y1
    rw [rdOf_set bd.1 (by rw [hl]; exact bd.2) y0, hs y y0 y1, List.mem_append, List.mem_singleton]
    constructor
    ·rintro (h | h | h)
     ·exact .inr (.inr h)
     ·exact .inl h
     ·exact .inr (.inl h)
    ·rintro (h | h | h)
     ·exact .inr (.inl h)
     ·exact .inr (.inr h)
     ·exact .inl h
theorem IsCyc.back {p c : List Int} (hp : IsPerm p) (h : IsCyc p c) {y : Int} (y0 : 0 ≤ y) (y1 : y < (p.length : Int)) (hy : rd p y ∈ c) : y ∈ c := by
 obtain ⟨a, e, ha⟩ := h.ex
 have hm := hy
 rw [e] at hm
 obtain ⟨j, hj, ej⟩ := List.mem_map.1 hm
 have hj := List.mem_range.1 hj
 have mem : ∀ k, k < c.length → powP p k a ∈ c := fun k hk => by rw [e]; exact List.mem_map.2 ⟨k, List.mem_range.2 (by simpa using hk), rfl⟩
 have pos := h.pos
 have za := h.inn a (mem 0 pos)
 cases j with
 | zero =>
  have : powP p (c.length - 1) a = y := by
   have b := powP_in hp za.1 za.2 (c.length - 1)
   refine rd_inj hp b.1 b.2 y0 y1 ?_
   have z : powP p (c.length - 1 + 1) a = rd p y := by
    rw [show c.length - 1 + 1 = c.length by omega, ha]; exact ej
   exact z
  rw [← this]
  exact mem _ (by omega)
 | succ k =>
  have : powP p k a = y := by
   have b := powP_in hp za.1 za.2 k
   exact rd_inj hp b.1 b.2 y0 y1 ej
  rw [← this]
  exact mem _ (by omega)
theorem not_back {p : List Int} (hp : IsPerm p) {T : Int → Prop} (hb : ∀ y, 0 ≤ y → y < (p.length : Int) → T (rd p y) → T y) {a : Int} (a0 : 0 ≤ a) (a1 : a < (p.length : Int)) (ha : ¬ T a) : ∀ m, ¬ T (powP p m a)
 | 0 => ha
 | m + 1 => fun h => not_back hp hb a0 a1 ha m (hb _ (powP_in hp a0 a1 m).1 (powP_in hp a0 a1 m).2 h)
theorem cycO_spec {p : List Int} (hp : IsPerm p) : ∀ (d i : Nat) (seen : List Bool) (out : List (List Int)), i + d = p.length → seen.length = p.length → (∀ c ∈ out, IsCyc p c) → out.flatten.Nodup →
  (∀ y : Int, 0 ≤ y → y < (p.length : Int) → (rdOf false seen y = true ↔ y ∈ out.flatten)) → (∀ j : Nat, j < i → (j : Int) ∈ out.flatten) →
  (∀ c ∈ cycO p d i seen out, IsCyc p c) ∧ (cycO p d i seen out).flatten.Nodup ∧ ∀ j : Nat, j < p.length → (j : Int) ∈ (cycO p d i seen out).flatten := by
 intro d
 induction d with
 | zero => intro i seen out h _ hc hn _ hi; exact ⟨hc, hn, fun j hj => hi j (by omega)⟩
 | succ d ih =>
  intro i seen out h hl hc hn hs hi
  rw [cycO]
  by_cases c : rdOf false seen (i : Int) = true
  ·rw [if_pos c]
   refine ih (i + 1) seen out (by omega) hl hc hn hs fun j hj => ?_
   by_cases e : j = i
   ·subst e
    exact (hs _ (by omega) (by omega)).1 c
   ·exact hi j (by omega)
  ·rw [if_neg c]
   have hb : ∀ y : Int, 0 ≤ y → y < (p.length : Int) → rd p y ∈ out.flatten → y ∈ out.flatten := fun y y0 y1 hy => by
    obtain ⟨z, hz, hy⟩ := List.mem_flatten.1 hy
    exact List.mem_flatten.2 ⟨z, hz, (hc z hz).back hp y0 y1 hy⟩
   have hna : ¬ (i : Int) ∈ out.flatten := fun h => c ((hs _ (by omega) (by omega)).2 h)
   have hT := not_back hp hb (a := (i : Int)) (by omega) (by omega) hna
   have cnt : seen.count false ≤ p.length := by rw [← hl]; exact List.count_le_length
   obtain ⟨k1, ⟨m', k2⟩, k3, k4⟩ := cycF_spec hp (· ∈ out.flatten) (a := (i : Int)) (by omega) (by omega) hT (p.length + 1) seen 0 [] hl rfl (by simp) (fun y y0 y1 => by rw [hs y y0 y1]; simp) (by omega)
   have k1 : IsCyc p (cycF p (p.length + 1) seen (i : Int) []).2 := k1
   have k2 : (cycF p (p.length + 1) seen (i : Int) []).2 = (List.range m').map (fun j => powP p j (i : Int)) := k2
   have k3 : (cycF p (p.length + 1) seen (i : Int) []).1.length = p.length := k3
   have k4 : ∀ y : Int, 0 ≤ y → y < (p.length : Int) → (rdOf false (cycF p (p.length + 1) seen (i : Int) []).1 y = true ↔ y ∈ out.flatten ∨ y ∈ (cycF p (p.length + 1) seen (i : Int) []).2) := k4
   generalize cycF p (p.length + 1) seen (i : Int) [] = F at *
   have fl : (out ++ [F.2]).flatten = out.flatten ++ F.2 := by simp
   have ii : (i : Int) ∈ F.2 := by
    rw [k2]
    have : 0 < m' := by have := k1.pos; rw [k2] at this; simpa using this
    exact List.mem_map.2 ⟨0, List.mem_range.2 this, rfl⟩
   refine ih (i + 1) F.1 (out ++ [F.2]) (by omega) k3 ?_ ?_ ?_ ?_
   ·intro z hz
    rcases List.mem_append.1 hz with hz | hz
    ·exact hc z hz
    ·rw [List.mem_singleton.1 hz]; exact k1
   ·rw [fl]
    refine List.nodup_append.2 ⟨hn, k1.nodup, fun x hx y hy e => ?_⟩
    subst e
    rw [k2] at hy
    obtain ⟨j, _, rfl⟩ := List.mem_map.1 hy
    exact hT j hx
   ·intro y y0 y1
    rw [fl, List.mem_append]
    exact k4 y y0 y1
   ·intro j hj
    rw [fl, List.mem_append]
    by_cases e : j = i
    ·subst e; exact .inr ii
    ·exact .inl (hi j (by omega))
theorem cycL_spec {p : List Int} (hp : IsPerm p) : (∀ c ∈ cycL p, IsCyc p c) ∧ (cycL p).flatten.Nodup ∧ ∀ j : Nat, j < p.length → (j : Int) ∈ (cycL p).flatten := by
 refine cycO_spec hp p.length 0 _ [] (by omega) (by simp) (by simp) (by simp) (fun y y0 y1 => ?_) (fun j hj => by omega)
 obtain ⟨j, rfl⟩ := Int.eq_ofNat_of_zero_le y0
 have : j < p.length := by omega
 simp [rdOf, List.getD_eq_getElem?_getD, this]
def ints (n : Nat) : List Int := (List.range n).map fun (j : Nat) => (j : Int)
theorem mem_ints {n : Nat} {x : Int} : x ∈ ints n ↔ 0 ≤ x ∧ x < (n : Int) := by
 constructor
 ·intro h
  obtain ⟨j, hj, rfl⟩ := List.mem_map.1 h
  have := List.mem_range.1 hj
  exact ⟨by omega, by omega⟩
 ·rintro ⟨h0, h1⟩
  exact List.mem_map.2 ⟨x.toNat, List.mem_range.2 (by omega), by omega⟩
theorem ints_nodup (n : Nat) : (ints n).Nodup := by
 apply nodup_of_inj
 intro i j hi hj e
 simp only [ints, List.getElem_map, List.getElem_range] at e
 omega
theorem perm_of_mem {l m : List Int} (hl : l.Nodup) (hm : m.Nodup) (h : ∀ x, x ∈ l ↔ x ∈ m) : l.Perm m := by
 rw [List.perm_iff_count]
 intro x
 rw [hl.count, hm.count]
 by_cases c : x ∈ l
 ·rw [if_pos c, if_pos ((h x).1 c)]
 ·rw [if_neg c, if_neg (fun z => c ((h x).2 z))]
theorem flat_ints {p : List Int} (hp : IsPerm p) : (cycL p).flatten.Perm (ints p.length) := by
 obtain ⟨h1, h2, h3⟩ := cycL_spec hp
 refine perm_of_mem h2 (ints_nodup _) fun x => ⟨fun hx => ?_, fun hx => ?_⟩
 ·obtain ⟨c, hc, hx⟩ := List.mem_flatten.1 hx
  exact mem_ints.2 ((h1 c hc).inn x hx)
 ·obtain ⟨h0, h1⟩ := mem_ints.1 hx
  have := h3 x.toNat (by omega)
  rwa [Int.toNat_of_nonneg h0] at this
/-- The lengths of the cycles. -/
def cycLen (p : List Int) : List Nat := (cycL p).map List.length
theorem cycLen_sum {p : List Int} (hp : IsPerm p) : (cycLen p).sum = p.length := by
 have := (flat_ints hp).length_eq
 rw [List.length_flatten] at this
 simpa [ints, cycLen] using this
/-- Does a number come back behind so many steps, and not before? -/
def isPer (p : List Int) (L : Nat) (x : Int) : Bool := decide (0 < L ∧ powP p L x = x ∧ ∀ k, k < L → 0 < k → powP p k x ≠ x)
theorem powP_comm (p : List Int) (x : Int) (m n : Nat) : powP p m (powP p n x) = powP p n (powP p m x) := by
 rw [← powP_add, ← powP_add, Nat.add_comm]
theorem IsCyc.per {p c : List Int} (hp : IsPerm p) (h : IsCyc p c) {x : Int} (hx : x ∈ c) (L : Nat) : isPer p L x = (c.length == L) := by
 obtain ⟨a, e, ha⟩ := h.ex
 have pos := h.pos
 have mem : ∀ k, k < c.length → powP p k a ∈ c := fun k hk => by rw [e]; exact List.mem_map.2 ⟨k, List.mem_range.2 (by simpa using hk), rfl⟩
 have za := h.inn a (mem 0 pos)
 have nd := h.nodup
 rw [e] at nd
 have hm := hx
 rw [e] at hm
 obtain ⟨j, hj, rfl⟩ := List.mem_map.1 hm
 have no : ∀ k, k < c.length → 0 < k → powP p k (powP p j a) ≠ powP p j a := fun k hk k0 z => by
  rw [powP_comm] at z
  have b := powP_in hp za.1 za.2 k
  have := powP_inj hp b.1 b.2 za.1 za.2 j z
  have := range_nodup nd hk pos this
  omega
 have yes : powP p c.length (powP p j a) = powP p j a := by rw [powP_comm, ha]
 rw [isPer, Bool.eq_iff_iff, decide_eq_true_eq, beq_iff_eq]
 constructor
 ·rintro ⟨l0, l1, l2⟩
  rcases Nat.lt_trichotomy c.length L with z | z | z
  ·exact absurd yes (l2 _ z pos)
  ·exact z
  ·exact absurd l1 (no _ z l0)
 ·rintro rfl
  exact ⟨pos, yes, no⟩

end Go.Proofs.Ytlohmpgbjgidpab.Q
namespace Go.Proofs.Ytlohmpgbjgidpab.Q
open Go.RowKit Go.Proofs.Ytlohmpgbjgidpab.P Go.Proofs.YtlohmpgbjgidpabW.PrintWords Go.Proofs.YtlohmpgbjgidpabW.PrintLast
/- How long the cycles are, taken together. -/
theorem cycB_sum (p : List Int) : ((cycB p).map List.length).sum ≤ 24 ∧ (cycB p).length ≤ 24 ∧ ∀ c ∈ cycB p, c.length ≤ 24 := by
 unfold cycB
 by_cases h : permB p = true
 ·rw [if_pos h]
  have hp := (permB_iff p).1 h
  have s : ((cycL p).map List.length).sum = p.length := cycLen_sum hp.2
  have pos := fun c hc => ((cycL_spec hp.2).1 c hc).pos
  have key : ∀ (l : List (List Int)), (∀ c ∈ l, 0 < c.length) → l.length ≤ (l.map List.length).sum ∧ ∀ c ∈ l, c.length ≤ (l.map List.length).sum := fun l => by
   induction l with
   | nil => intro _; simp
   | cons c l ih =>
    intro hc
    have a := hc c (by simp)
    have b := ih fun c hh => hc c (by simp [hh])
    simp only [List.length_cons, List.map_cons, List.sum_cons]
    refine ⟨by omega, fun d hd => ?_⟩
    rcases List.mem_cons.1 hd with rfl | hd
    ·omega
    ·have := b.2 d hd; omega
  have k := key _ pos
  refine ⟨by omega, by omega, fun c hc => ?_⟩
  have := k.2 c hc
  omega
 ·rw [if_neg h]
  simp

end Go.Proofs.Ytlohmpgbjgidpab.Q
namespace Go.Proofs.Ytlohmpgbjgidpab.Q
open Go.RowKit Go.Proofs.Ytlohmpgbjgidpab.P Go.Proofs.YtlohmpgbjgidpabW.PrintWords Go.Proofs.YtlohmpgbjgidpabW.PrintLast
/- The program's cycles. -/
theorem impl_cyc_inner (p : List Int) (hp : IsPerm p) (hn : p.length ≤ 24) (i : Nat) (hi : i < p.length) (out : List (List Int)) (ho : out.length ≤ 24) (r : List (List Int)) : ∀ (d : Nat) (seen : List Bool) (x : Int) (cyc : List Int), seen.length = p.length → 0 ≤ x → x < (p.length : Int) → seen.count false < d → cyc.length + d ≤ 60 →
  (0 < (cycF p d seen x cyc).2.length) → Ev (fun k => impl_CyclesOf.l0 k p (cycF p d seen x cyc).1 (out ++ [(cycF p d seen x cyc).2]) (p.length : Int) ((i + 1 : Nat) : Int)) r →
  Ev (fun k => impl_CyclesOf.l1 k p seen out cyc x (p.length : Int) i) r := by
 intro d
 induction d with
 | zero => intro seen x cyc hl h0 h1 hc; omega
 | succ d ih =>
  intro seen x cyc hl h0 h1 hc hd hpos next
  refine Ev.step (fun k => by rw [impl_CyclesOf.l1]) (Ev.pos h0 (Ev.pos (by omega) ?_))
  rw [cycF] at next hpos
  by_cases c : rdOf false seen x = true
  ·rw [if_pos c] at next hpos
   refine Ev.pos c ?_
   rw [w64n (by omega)]
   exact Ev.pos (by omega) next
  ·rw [if_neg c] at next hpos
   have b := rd_perm hp h0 h1
   have cs := count_seen h0 (by omega) c
   refine Ev.neg c (Ev.pos (by omega) (Ev.pos (by omega) ?_))
   exact ih _ _ _ (by rw [List.length_set, hl]) b.1 b.2 (by omega) (by rw [List.length_append, List.length_cons, List.length_nil]; omega) hpos next
theorem impl_cyc_outer (p : List Int) (hp : IsPerm p) (hn : p.length ≤ 24) : ∀ (d i : Nat) (seen : List Bool) (out : List (List Int)), i + d = p.length → seen.length = p.length → out.length ≤ i → Ev (fun k => impl_CyclesOf.l0 k p seen out (p.length : Int) i) (cycO p d i seen out) := by
 intro d
 induction d with
 | zero =>
  intro i seen out h hl ho
  exact Ev.step (fun k => by rw [impl_CyclesOf.l0]) (Ev.neg (by omega) (Ev.now out))
 | succ d ih =>
  intro i seen out h hl ho
  rw [cycO]
  refine Ev.step (fun k => by rw [impl_CyclesOf.l0]) (Ev.pos (by omega) ?_)
  have cnt : seen.count false ≤ p.length := by rw [← hl]; exact List.count_le_length
  have inner := fun r hh => impl_cyc_inner p hp hn i (by omega) out (by omega) r (p.length + 1) seen (i : Int) [] hl (by omega) (by omega) (by omega) (by simp; omega) hh
  by_cases c : rdOf false seen (i : Int) = true
  ·rw [if_pos c]
   have n := ih (i + 1) seen out (by omega) hl (by omega)
   refine Ev.pos (by omega) (Ev.pos (by omega) (Ev.pos c ?_))
   rw [w64n (by omega)]
   exact n
  ·rw [if_neg c]
   have n := ih (i + 1) (cycF p (p.length + 1) seen (i : Int) []).1 (out ++ [(cycF p (p.length + 1) seen (i : Int) []).2]) (by omega) (by rw [(cycF_seen _ _ _ _ _).1, hl]) (by rw [List.length_append, List.length_cons, List.length_nil]; omega)
   exact Ev.pos (by omega) (Ev.pos (by omega) (Ev.neg c (inner _ (cycF_pos p _ seen _ c) n)))
theorem impl_CyclesOf_ev (p : List Int) : Ev (fun k => impl_CyclesOf.f k p) (cycB p) := by
 refine Ev.same (fun k => by rw [impl_CyclesOf.f]) (Ev.plain (impl_PermOk_some p) ?_)
 unfold cycB
 by_cases h : permB p = true
 ·have h' := (permB_iff p).1 h
  have := h'.1
  rw [if_pos h]
  refine Ev.pos h (Ev.pos (by omega) (Ev.pos (by omega) ?_))
  exact impl_cyc_outer p h'.2 h'.1 p.length 0 _ [] (by omega) (by simp) (by simp)
 ·rw [if_neg h]
  exact Ev.neg h (Ev.now _)

end Go.Proofs.Ytlohmpgbjgidpab.Q
namespace Go.Proofs.Ytlohmpgbjgidpab.Q
open Go.RowKit Go.Proofs.Ytlohmpgbjgidpab.P Go.Proofs.YtlohmpgbjgidpabW.PrintWords Go.Proofs.YtlohmpgbjgidpabW.PrintLast
/- The cycles of the round. -/
def cornersB (r u : List Int) : List (List Int) := if transB r u = true then cycL (aroundL r u) else []
theorem IsSurf.permA {r u : List Int} (h : IsSurf r u) : permB (aroundL r u) = true := (permB_iff _).2 ⟨by rw [aroundL_length]; exact h.le, aroundL_perm h⟩

end Go.Proofs.Ytlohmpgbjgidpab.Q
namespace Go.Proofs.Ytlohmpgbjgidpab.Q
open Go.RowKit Go.Proofs.Ytlohmpgbjgidpab.P Go.Proofs.YtlohmpgbjgidpabW.PrintWords Go.Proofs.YtlohmpgbjgidpabW.PrintLast
/- The program's corners. -/
theorem impl_CornersOf_ev (r u : List Int) : Ev (fun k => impl_CornersOf.f k r u) (cornersB r u) := by
 refine Ev.same (fun k => by rw [impl_CornersOf.f]) (Ev.bind (impl_SurfaceOk_ev r u) ?_)
 unfold cornersB
 by_cases h : transB r u = true
 ·rw [if_pos h]
  have s := (transB_iff r u).1 h
  refine Ev.pos h (Ev.bind (impl_AroundOf_ev r u) ?_)
  rw [aroundB, if_pos h]
  refine Ev.bind (impl_CyclesOf_ev _) ?_
  rw [cycB, if_pos s.permA]
  exact Ev.now _
 ·rw [if_neg h]
  exact Ev.neg h (Ev.now _)

end Go.Proofs.Ytlohmpgbjgidpab.Q
namespace Go.Proofs.Ytlohmpgbjgidpab.Q
open Go.RowKit Go.Proofs.Ytlohmpgbjgidpab.P Go.Proofs.YtlohmpgbjgidpabW.PrintWords Go.Proofs.YtlohmpgbjgidpabW.PrintLast
/- Numbers in descending order: insertion, and that the order is one. -/
def Desc (l : List Int) : Prop := l.Pairwise (fun a b => b ≤ a)
theorem desc_unique : ∀ {l m : List Int}, l.Perm m → Desc l → Desc m → l = m
 | [], m, h, _, _ => by rw [List.nil_perm.1 h]
 | x :: l, [], h, _, _ => by simp at h
 | x :: l, y :: m, h, hl, hm => by
  have hl := List.pairwise_cons.1 hl
  have hm := List.pairwise_cons.1 hm
  have e : x = y := by
   have a : x ∈ y :: m := h.mem_iff.1 (by simp)
   have b : y ∈ x :: l := h.mem_iff.2 (by simp)
   rcases List.mem_cons.1 a with e | a
   ·exact e
   ·rcases List.mem_cons.1 b with e | b
    ·exact e.symm
    ·have := hl.1 _ b
     have := hm.1 _ a
     omega
  subst e
  rw [desc_unique h.cons_inv hl.2 hm.2]
/-- One number moved down to its place. -/
def insF : Nat → List Int → Int → List Int
 | 0, out, x => out.set 0 x
 | k + 1, out, x => if rd out (k : Int) < x then insF k (out.set (k + 1) (rd out (k : Int))) x else out.set (k + 1) x
theorem insF_spec (x : Int) : ∀ (k : Nat) (A B : List Int) (g : Int), A.length = k → Desc (A ++ B) → (∀ b ∈ B, b < x) → (insF k (A ++ g :: B) x).Perm (x :: (A ++ B)) ∧ Desc (insF k (A ++ g :: B) x)
 | 0, A, B, g, h, hs, hb => by
  obtain rfl := List.length_eq_zero_iff.1 h
  refine ⟨List.Perm.refl _, List.pairwise_cons.2 ⟨fun b hh => ?_, hs⟩⟩
  have := hb b hh
  omega
 | k + 1, A, B, g, h, hs, hb => by
  obtain ⟨A', a, rfl⟩ : ∃ A' a, A = A' ++ [a] := ⟨A.dropLast, A.getLast (by intro z; simp [z] at h), (List.dropLast_concat_getLast _).symm⟩
  have l : A'.length = k := by simpa using h
  have ra : rd (A' ++ [a] ++ g :: B) (k : Int) = a := by
   rw [rdn, List.getD_eq_getElem?_getD, List.append_assoc, List.getElem?_append_right (by omega), l, Nat.sub_self]
   rfl
  have st : ∀ v, (A' ++ [a] ++ g :: B).set (k + 1) v = A' ++ [a] ++ v :: B := fun v => by
   rw [List.set_append_right _ _ (by simp [l]), List.length_append, l]
   simp
  rw [insF, ra, st]
  by_cases c : a < x
  ·rw [if_pos c]
   have := insF_spec x k A' (a :: B) a l (by simpa using hs) (fun b hh => by
    rcases List.mem_cons.1 hh with rfl | hh
    ·exact c
    ·exact hb b hh)
   rw [show A' ++ [a] ++ a :: B = A' ++ a :: (a :: B) by simp, show A' ++ [a] ++ B = A' ++ a :: B by simp]
   exact this
  ·rw [if_neg c, st]
   refine ⟨List.perm_middle, ?_⟩
   have hp := List.pairwise_append.1 hs
   have ha := List.pairwise_append.1 hp.1
   refine List.pairwise_append.2 ⟨hp.1, List.pairwise_cons.2 ⟨fun b hh => by have := hb b hh; omega, hp.2.1⟩, fun y hy z hz => ?_⟩
   have yx : x ≤ y := by
    rcases List.mem_append.1 hy with hy | hy
    ·have := ha.2.2 y hy a (by simp); omega
    ·rw [List.mem_singleton.1 hy]; omega
   rcases List.mem_cons.1 hz with rfl | hz
   ·exact yx
   ·exact hp.2.2 y hy z hz
/-- The list in descending order. -/
def descF : List Int → List Int → List Int
 | [], out => out
 | x :: l, out => descF l (insF out.length (out ++ [0]) x)
def descL (l : List Int) : List Int := descF l []
theorem descF_spec : ∀ (l out : List Int), Desc out → (descF l out).Perm (l ++ out) ∧ Desc (descF l out)
 | [], out, h => ⟨List.Perm.refl _, h⟩
 | x :: l, out, h => by
  have i := insF_spec x out.length out [] 0 rfl (by simpa using h) (by simp)
  have := descF_spec l _ i.2
  refine ⟨this.1.trans ?_, this.2⟩
  rw [List.cons_append]
  refine (List.Perm.append_left l i.1).trans ?_
  rw [List.append_nil]
  exact List.perm_middle
theorem descL_spec (l : List Int) : (descL l).Perm l ∧ Desc (descL l) := by
 have := descF_spec l [] List.Pairwise.nil
 rwa [List.append_nil] at this
theorem descL_length (l : List Int) : (descL l).length = l.length := (descL_spec l).1.length_eq

end Go.Proofs.Ytlohmpgbjgidpab.Q
namespace Go.Proofs.Ytlohmpgbjgidpab.Q
open Go.RowKit Go.Proofs.Ytlohmpgbjgidpab.P Go.Proofs.YtlohmpgbjgidpabW.PrintWords Go.Proofs.YtlohmpgbjgidpabW.PrintLast

theorem rdLS {xs : List (List Int)} {i : Nat} (h : i < xs.length) : rd_L3 xs (i : Int) = xs[i] := by simp [rd_L3, h]

end Go.Proofs.Ytlohmpgbjgidpab.Q
namespace Go.Proofs.Ytlohmpgbjgidpab.Q
open Go.RowKit Go.Proofs.Ytlohmpgbjgidpab.P Go.Proofs.YtlohmpgbjgidpabW.PrintWords Go.Proofs.YtlohmpgbjgidpabW.PrintLast
/- The two AnglesOf functions and the two StratumOf functions. -/
theorem corners_sum (r u : List Int) : ((cornersB r u).map List.length).sum ≤ 24 ∧ (cornersB r u).length ≤ 24 ∧ ∀ c ∈ cornersB r u, c.length ≤ 24 := by
 unfold cornersB
 by_cases h : transB r u = true
 ·rw [if_pos h]
  have := cycB_sum (aroundL r u)
  rw [cycB, if_pos ((transB_iff r u).1 h).permA] at this
  exact this
 ·rw [if_neg h]
  simp
def lensL (cs : List (List Int)) : List Int := cs.map fun c => (c.length : Int)
/-- What AnglesOf returns. -/
def angB (r u : List Int) : List Int := descL (lensL (cornersB r u))
theorem angB_mem (r u : List Int) : ∀ x ∈ angB r u, 0 ≤ x ∧ x ≤ 24 := by
 intro x hx
 have := (descL_spec _).1.mem_iff.1 hx
 obtain ⟨c, hc, rfl⟩ := List.mem_map.1 this
 have := (corners_sum r u).2.2 c hc
 omega
theorem angB_length (r u : List Int) : (angB r u).length ≤ 24 := by
 rw [angB, descL_length, lensL, List.length_map]
 exact (corners_sum r u).2.1
theorem sort_desc (l : List Int) : (l.mergeSort fun x y => decide (y ≤ x)) = descL l := by
 refine desc_unique ((List.mergeSort_perm l _).trans (descL_spec l).1.symm) ?_ (descL_spec l).2
 have := List.pairwise_mergeSort (le := fun x y : Int => decide (y ≤ x)) (fun a b c h1 h2 => by simp at *; omega) (fun a b => by simp; omega) l
 exact this.imp fun h => by simpa using h
theorem impl_ang_loop (cs : List (List Int)) (hl : cs.length ≤ 24) (hc : ∀ c ∈ cs, c.length ≤ 24) : ∀ (d i : Nat), i + d = cs.length → Ev (fun k => impl_AnglesOf.l0 k (lensL (cs.take i)) cs (cs.length : Int) i) (descL (lensL cs)) := by
 intro d
 induction d with
 | zero =>
  intro i h
  refine Ev.step (fun k => by rw [impl_AnglesOf.l0]) (Ev.neg (by omega) ?_)
  rw [List.take_of_length_le (by omega)]
  refine Ev.plain (a := descL (lensL cs)) ?_ (Ev.now _)
  unfold slices_SortFunc_int_int.f
  rw [if_pos ⟨fun x hx => by
   obtain ⟨c, m, rfl⟩ := List.mem_map.1 hx
   have := hc c m
   omega, by rw [lensL, List.length_map]; omega⟩, sort_desc]
 | succ d ih =>
  intro i h
  refine Ev.step (fun k => by rw [impl_AnglesOf.l0]) (Ev.pos (by omega) (Ev.pos (by omega) (Ev.pos (by omega) (Ev.pos (by rw [lensL, List.length_map, List.length_take]; omega) ?_))))
  have := ih (i + 1) (by omega)
  rw [List.take_succ_eq_append_getElem (by omega), lensL, List.map_append] at this
  rw [rdLS (by omega), w64n (by omega)]
  exact this
theorem impl_AnglesOf_ev (r u : List Int) : Ev (fun k => impl_AnglesOf.f k r u) (angB r u) := by
 have h := corners_sum r u
 refine Ev.same (fun k => by rw [impl_AnglesOf.f]) (Ev.bind (impl_CornersOf_ev r u) ?_)
 exact impl_ang_loop _ h.2.1 h.2.2 (cornersB r u).length 0 (by omega)
/-- The numbers above 1, each less 1. -/
def lessL1 (l : List Int) : List Int := (l.filter fun x => decide (x > 1)).map fun x => x - 1
theorem lessL1_snoc (l : List Int) (x : Int) : lessL1 (l ++ [x]) = if x > 1 then lessL1 l ++ [x - 1] else lessL1 l := by
 unfold lessL1
 by_cases c : x > 1
 ·rw [if_pos c]; simp [List.filter_append, c]
 ·rw [if_neg c]; simp [List.filter_append, c]
theorem lessL1_length (l : List Int) : (lessL1 l).length ≤ l.length := by
 unfold lessL1
 rw [List.length_map]
 exact List.length_filter_le _ _
/-- What StratumOf returns. -/
def strB (r u : List Int) : List Int := lessL1 (angB r u)
theorem strB_length (r u : List Int) : (strB r u).length ≤ 24 := Nat.le_trans (lessL1_length _) (angB_length r u)
theorem impl_str_loop (l : List Int) (hl : l.length ≤ 24) (hm : ∀ x ∈ l, 0 ≤ x ∧ x ≤ 24) : ∀ (d i : Nat), i + d = l.length → Ev (fun k => impl_StratumOf.l0 k (lessL1 (l.take i)) l (l.length : Int) i) (lessL1 l) := by
 intro d
 induction d with
 | zero =>
  intro i h
  refine Ev.step (fun k => by rw [impl_StratumOf.l0]) (Ev.neg (by omega) ?_)
  rw [List.take_of_length_le (by omega)]
  exact Ev.now _
 | succ d ih =>
  intro i h
  have m := hm _ (List.getElem_mem (show i < l.length by omega))
  have := ih (i + 1) (by omega)
  rw [List.take_succ_eq_append_getElem (by omega), lessL1_snoc] at this
  refine Ev.step (fun k => by rw [impl_StratumOf.l0]) (Ev.pos (by omega) (Ev.pos (by omega) (Ev.pos (by omega) ?_)))
  rw [rdg (by omega), w64n (by omega), w64 (by omega) (by omega)]
  by_cases c : l[i]'(by omega) > 1
  ·rw [if_pos c] at this
   refine Ev.pos c (Ev.pos (by have := lessL1_length (l.take i); rw [List.length_take] at this; omega) ?_)
   exact this
  ·rw [if_neg c] at this
   exact Ev.neg c this
theorem impl_StratumOf_ev (r u : List Int) : Ev (fun k => impl_StratumOf.f k r u) (strB r u) := by
 refine Ev.same (fun k => by rw [impl_StratumOf.f]) (Ev.bind (impl_AnglesOf_ev r u) ?_)
 exact impl_str_loop _ (angB_length r u) (angB_mem r u) (angB r u).length 0 (by omega)

end Go.Proofs.Ytlohmpgbjgidpab.Q
namespace Go.Proofs.Ytlohmpgbjgidpab.Q
open Go.RowKit Go.Proofs.Ytlohmpgbjgidpab.P Go.Proofs.YtlohmpgbjgidpabW.PrintWords Go.Proofs.YtlohmpgbjgidpabW.PrintLast
/- The two CountSquares functions. -/
def countB (r u : List Int) : Int := if transB r u = true then (r.length : Int) else 0
theorem impl_CountSquares_ev (r u : List Int) : Ev (fun k => impl_CountSquares.f k r u) (countB r u) := by
 refine Ev.same (fun k => by rw [impl_CountSquares.f]) (Ev.bind (impl_SurfaceOk_ev r u) ?_)
 unfold countB
 cases transB r u with
 | true => exact Ev.now _
 | false => exact Ev.now _

end Go.Proofs.Ytlohmpgbjgidpab.Q
namespace Go.Proofs.Ytlohmpgbjgidpab.Q
open Go.RowKit Go.Proofs.Ytlohmpgbjgidpab.P Go.Proofs.YtlohmpgbjgidpabW.PrintWords Go.Proofs.YtlohmpgbjgidpabW.PrintLast
/- The two GenusOf functions. -/
def genusB (r u : List Int) : Int := if transB r u = true then wrap64 (1 + wrap64 (Int.tdiv (wrap64 ((r.length : Int) - ((cornersB r u).length : Int))) 2)) else -1
theorem impl_GenusOf_ev (r u : List Int) : Ev (fun k => impl_GenusOf.f k r u) (genusB r u) := by
 refine Ev.same (fun k => by rw [impl_GenusOf.f]) (Ev.bind (impl_SurfaceOk_ev r u) ?_)
 unfold genusB
 by_cases h : transB r u = true
 ·rw [if_pos h]
  refine Ev.pos h (Ev.bind (impl_CountSquares_ev r u) ?_)
  rw [countB, if_pos h]
  exact Ev.bind (impl_CornersOf_ev r u) (Ev.now _)
 ·rw [if_neg h]
  exact Ev.neg h (Ev.now _)

end Go.Proofs.Ytlohmpgbjgidpab.Q
namespace Go.Proofs.Ytlohmpgbjgidpab.Q
open Go.RowKit Go.Proofs.Ytlohmpgbjgidpab.P Go.Proofs.YtlohmpgbjgidpabW.PrintWords Go.Proofs.YtlohmpgbjgidpabW.PrintLast
/- The two IsRegularCorner functions. -/
def regB (r u : List Int) (s : Int) : Bool := if transB r u = true ∧ 0 ≤ s ∧ s < (r.length : Int) then rd (aroundL r u) s == s else false
theorem impl_IsRegularCorner_ev (r u : List Int) (s : Int) : Ev (fun k => impl_IsRegularCorner.f k r u s) (regB r u s) := by
 refine Ev.same (fun k => by rw [impl_IsRegularCorner.f]) (Ev.bind (impl_SurfaceOk_ev r u) ?_)
 unfold regB
 by_cases h : transB r u = true
 ·refine Ev.pos h ?_
  by_cases h0 : s ≥ 0
  ·refine Ev.pos h0 ?_
   by_cases h1 : s < (r.length : Int)
   ·rw [if_pos ⟨h, h0, h1⟩]
    refine Ev.pos h1 (Ev.bind (impl_AroundOf_ev r u) ?_)
    rw [aroundB, if_pos h]
    exact Ev.pos h0 (Ev.pos (by rw [aroundL_length]; exact h1) (Ev.now _))
   ·rw [if_neg (fun z => h1 z.2.2)]
    exact Ev.neg h1 (Ev.now _)
  ·rw [if_neg (fun z => h0 z.2.1)]
   exact Ev.neg h0 (Ev.now _)
 ·rw [if_neg (fun z => h z.1)]
  exact Ev.neg h (Ev.now _)

end Go.Proofs.Ytlohmpgbjgidpab.Q
namespace Go.Proofs.Ytlohmpgbjgidpab.Q
open Go.RowKit Go.Proofs.Ytlohmpgbjgidpab.P Go.Proofs.YtlohmpgbjgidpabW.PrintWords Go.Proofs.YtlohmpgbjgidpabW.PrintLast
/- Each move makes a valid surface of a valid one. -/
theorem rd_then {p q : List Int} {x : Int} (h0 : 0 ≤ x) (h1 : x < (p.length : Int)) : rd (thenL p q) x = rd q (rd p x) := by
 rw [rd_of (q := thenL p q) h0 (by rw [thenL_length]; exact h1), thenL_get p q (by omega), rd_of h0 h1]
theorem rd_inv {p : List Int} {x : Int} (h0 : 0 ≤ x) (h1 : x < (p.length : Int)) : rd (invL p) x = (posOf p x : Int) := by
 rw [rd_of (q := invL p) h0 (by rw [invL_length]; exact h1), invL_get p (by omega), show ((x.toNat : Nat) : Int) = x by omega]
theorem rd_inv_of {p : List Int} (hp : IsPerm p) {x : Int} (h0 : 0 ≤ x) (h1 : x < (p.length : Int)) : rd (invL p) (rd p x) = x := by
 have b := rd_perm hp h0 h1
 rw [rd_inv b.1 b.2, rd_of h0 h1, hp.posOf_at]
 omega
theorem rd_of_inv {p : List Int} (hp : IsPerm p) {x : Int} (h0 : 0 ≤ x) (h1 : x < (p.length : Int)) : rd p (rd (invL p) x) = x := by
 have m := hp.mem h0 h1
 rw [rd_inv h0 h1, rdg (posOf_lt m), posOf_get m]
/-- A list of squares that is closed under the new pair is closed under the old one: the new pair meets all squares. -/
theorem surf_of {r u r' u' : List Int} (h : IsSurf r u) (hr : IsPerm r') (hu : IsPerm u') (lr : r'.length = r.length) (lu : u'.length = r.length)
  (hc : ∀ C : List Int, Few r.length C → (∀ x ∈ C, rd r' x ∈ C ∧ rd u' x ∈ C) → ∀ x ∈ C, rd r x ∈ C ∧ rd u x ∈ C) : IsSurf r' u' := by
 have pos := h.pos
 obtain ⟨f1, c1, m1, _⟩ := reachL_all r' u' hr hu (by omega) (s := 0) (by omega) (by omega)
 obtain ⟨f0, c0, m0, l0⟩ := reachL_all r u h.right h.up h.same (s := 0) (by omega) (by omega)
 rw [lr] at f1
 have sub := l0 (· ∈ reachL r' u' 0) (fun x _ _ hx => hc _ f1 c1 x hx) m1
 have := sub_len _ _ f0.nodup sub
 have := f1.len
 have := h.all
 exact ⟨hr, hu, by omega, by omega, by have := h.le; omega, by omega⟩
/-- What a permutation keeps, its inverse keeps. -/
theorem back {n : Nat} {C : List Int} (hf : Few n C) {p : List Int} (hp : IsPerm p) (hl : p.length = n) (h : ∀ x ∈ C, rd p x ∈ C) : ∀ x ∈ C, rd (invL p) x ∈ C := by
 intro x hx
 obtain ⟨y, hy, e⟩ := onto hf.nodup (f := rd p) (fun a ha b hb e => rd_inj hp (hf.lo a ha) (by have := hf.hi a ha; omega) (hf.lo b hb) (by have := hf.hi b hb; omega) e) h hx
 rw [← e, rd_inv_of hp (hf.lo y hy) (by have := hf.hi y hy; omega)]
 exact hy
theorem shear_surf {r u : List Int} (h : IsSurf r u) : IsSurf (shearV r u).1 (shearV r u).2 := by
 have s := h.same
 have e1 : (invL r).length = u.length := by rw [invL_length, s]
 refine surf_of h h.right (h.right.inv.then h.up e1) rfl (by rw [shearV, thenL_length, invL_length]) fun C hf hc x hx => ⟨(hc x hx).1, ?_⟩
 have b := rd_perm h.right (hf.lo x hx) (hf.hi x hx)
 have := (hc _ (hc x hx).1).2
 rwa [shearV, rd_then b.1 (by rw [invL_length]; exact b.2), rd_inv_of h.right (hf.lo x hx) (hf.hi x hx)] at this

end Go.Proofs.Ytlohmpgbjgidpab.Q
namespace Go.Proofs.Ytlohmpgbjgidpab.Q
open Go.RowKit Go.Proofs.Ytlohmpgbjgidpab.P Go.Proofs.YtlohmpgbjgidpabW.PrintWords Go.Proofs.YtlohmpgbjgidpabW.PrintLast
/- What a renaming keeps: the steps, the periods, the lengths of the cycles. -/
/-- Every number is a name. -/
theorem rd_onto {q : List Int} (hq : IsPerm q) {y : Int} (h0 : 0 ≤ y) (h1 : y < (q.length : Int)) : ∃ x, 0 ≤ x ∧ x < (q.length : Int) ∧ rd q x = y := by
 have b := rd_perm hq.inv h0 (by rw [invL_length]; exact h1)
 rw [invL_length] at b
 exact ⟨rd (invL q) y, b.1, b.2, rd_of_inv hq h0 h1⟩
theorem ints_map {v : List Int} (hv : IsPerm v) : ((ints v.length).map (rd v ·)).Perm (ints v.length) := by
 refine perm_of_mem (nodup_map (ints_nodup _) fun x hx y hy e => ?_) (ints_nodup _) fun x => ⟨fun hx => ?_, fun hx => ?_⟩
 ·have a := mem_ints.1 hx
  have b := mem_ints.1 hy
  exact rd_inj hv a.1 a.2 b.1 b.2 e
 ·obtain ⟨y, hy, rfl⟩ := List.mem_map.1 hx
  have a := mem_ints.1 hy
  exact mem_ints.2 (rd_perm hv a.1 a.2)
 ·have a := mem_ints.1 hx
  obtain ⟨y, y0, y1, rfl⟩ := rd_onto hv a.1 a.2
  exact List.mem_map.2 ⟨y, mem_ints.2 ⟨y0, y1⟩, rfl⟩

end Go.Proofs.Ytlohmpgbjgidpab.Q
namespace Go.Proofs.Ytlohmpgbjgidpab.Q
open Go.RowKit Go.Proofs.Ytlohmpgbjgidpab.P Go.Proofs.YtlohmpgbjgidpabW.PrintWords Go.Proofs.YtlohmpgbjgidpabW.PrintLast
/- Inversions: their number is even or odd as the numbers that are no first ones of their cycles are. -/
def dsum {α : Type} (l : List α) (f : α → α → Nat) : Nat := (l.map fun x => (l.map fun y => f x y).sum).sum
theorem sum_perm {l m : List Nat} (h : l.Perm m) : l.sum = m.sum := by
 induction h with
 | nil => rfl
 | cons x _ ih => simp [ih]
 | swap x y l => simp; omega
 | trans _ _ a b => exact a.trans b
theorem sum_add {α : Type} (l : List α) (f g : α → Nat) : (l.map fun x => f x + g x).sum = (l.map f).sum + (l.map g).sum := by
 induction l with
 | nil => rfl
 | cons x l ih => simp [ih]; omega
theorem dsum_add {α : Type} (l : List α) (f g : α → α → Nat) : dsum l (fun x y => f x y + g x y) = dsum l f + dsum l g := by
 unfold dsum
 rw [← sum_add]
 congr 1
 exact List.map_congr_left fun x _ => sum_add l _ _
theorem dsum_congr {α : Type} {l : List α} {f g : α → α → Nat} (h : ∀ x ∈ l, ∀ y ∈ l, f x y = g x y) : dsum l f = dsum l g := by
 unfold dsum
 congr 1
 refine List.map_congr_left fun x hx => ?_
 congr 1
 exact List.map_congr_left fun y hy => h x hx y hy
theorem dsum_map {α β : Type} (l : List α) (g : α → β) (f : β → β → Nat) : dsum (l.map g) f = dsum l fun x y => f (g x) (g y) := by
 unfold dsum
 simp only [List.map_map]
 rfl
theorem dsum_perm {α : Type} {l m : List α} (h : l.Perm m) (f : α → α → Nat) : dsum l f = dsum m f := by
 unfold dsum
 rw [sum_perm (h.map _)]
 congr 1
 exact List.map_congr_left fun x _ => sum_perm (h.map _)
theorem dsum_cons {α : Type} (x : α) (l : List α) (f : α → α → Nat) (h0 : f x x = 0) (hs : ∀ y ∈ l, f y x = f x y) : dsum (x :: l) f = 2 * (l.map fun y => f x y).sum + dsum l f := by
 unfold dsum
 simp only [List.map_cons, List.sum_cons]
 rw [sum_add l (fun y => f y x) (fun y => (l.map fun z => f y z).sum), List.map_congr_left hs, h0]
 have e : (l.map fun y => f x y).sum = (l.map (f x)).sum := rfl
 omega
theorem dsum_even {α : Type} : ∀ (l : List α) (f : α → α → Nat), (∀ x ∈ l, f x x = 0) → (∀ x ∈ l, ∀ y ∈ l, f x y = f y x) → ∃ k, dsum l f = 2 * k
 | [], f, _, _ => ⟨0, rfl⟩
 | x :: l, f, h0, hs => by
  obtain ⟨k, e⟩ := dsum_even l f (fun x hx => h0 x (by simp [hx])) (fun x hx y hy => hs x (by simp [hx]) y (by simp [hy]))
  rw [dsum_cons x l f (h0 x (by simp)) (fun y hy => hs y (by simp [hy]) x (by simp)), e]
  exact ⟨_, (Nat.mul_add 2 _ _).symm⟩
/-- Do two numbers change their order? -/
def turned (p : List Int) (x y : Int) : Nat := if (x < y ∧ rd p y < rd p x) ∨ (y < x ∧ rd p x < rd p y) then 1 else 0
theorem turned_self (p : List Int) (x : Int) : turned p x x = 0 := if_neg (by omega)
theorem turned_symm (p : List Int) (x y : Int) : turned p x y = turned p y x := by
 unfold turned
 by_cases c : (x < y ∧ rd p y < rd p x) ∨ (y < x ∧ rd p x < rd p y)
 ·rw [if_pos c, if_pos c.symm]
 ·rw [if_neg c, if_neg (fun z => c z.symm)]
theorem turned_then {p q : List Int} (hp : IsPerm p) (hq : IsPerm q) (hl : p.length = q.length) {x y : Int} (x0 : 0 ≤ x) (x1 : x < (p.length : Int)) (y0 : 0 ≤ y) (y1 : y < (p.length : Int)) :
  turned (thenL p q) x y + 2 * (turned p x y * turned q (rd p x) (rd p y)) = turned p x y + turned q (rd p x) (rd p y) := by
 have bx := rd_perm hp x0 x1
 have bnd := rd_perm hp y0 y1
 have i1 : rd p x = rd p y → x = y := fun e => rd_inj hp x0 x1 y0 y1 e
 have i2 : rd q (rd p x) = rd q (rd p y) → rd p x = rd p y := fun e => rd_inj hq bx.1 (by omega) bnd.1 (by omega) e
 by_cases e : x = y
 ·subst e; simp [turned_self]
 unfold turned
 rw [rd_then x0 x1, rd_then y0 y1]
 generalize rd q (rd p x) = a at *
 generalize rd q (rd p y) = b at *
 generalize rd p x = c at *
 generalize rd p y = d at *
 have : c ≠ d := fun z => e (i1 z)
 have : a ≠ b := fun z => this (i2 z)
 by_cases c1 : (x < y ∧ d < c) ∨ (y < x ∧ c < d) <;> by_cases c2 : (c < d ∧ b < a) ∨ (d < c ∧ a < b) <;> by_cases c3 : (x < y ∧ b < a) ∨ (y < x ∧ a < b) <;>
  (first | (rw [if_pos c1, if_pos c2, if_pos c3]) | (rw [if_pos c1, if_pos c2, if_neg c3]) | (rw [if_pos c1, if_neg c2, if_pos c3]) | (rw [if_pos c1, if_neg c2, if_neg c3]) | (rw [if_neg c1, if_pos c2, if_pos c3]) | (rw [if_neg c1, if_pos c2, if_neg c3]) | (rw [if_neg c1, if_neg c2, if_pos c3]) | (rw [if_neg c1, if_neg c2, if_neg c3])) <;> omega
/-- Twice the inversions. -/
def inv2 (p : List Int) : Nat := dsum (ints p.length) (turned p)
theorem inv2_then {p q : List Int} (hp : IsPerm p) (hq : IsPerm q) (hl : p.length = q.length) : ∃ k, inv2 (thenL p q) + 4 * k = inv2 p + inv2 q := by
 obtain ⟨k, e⟩ := dsum_even (ints p.length) (fun x y => turned p x y * turned q (rd p x) (rd p y)) (fun x _ => by simp [turned_self]) (fun x _ y _ => by rw [turned_symm p, turned_symm q])
 refine ⟨k, ?_⟩
 have h1 : dsum (ints p.length) (fun x y => turned (thenL p q) x y + (turned p x y * turned q (rd p x) (rd p y) + turned p x y * turned q (rd p x) (rd p y))) = dsum (ints p.length) (fun x y => turned p x y + turned q (rd p x) (rd p y)) :=
  dsum_congr fun x hx y hy => by
   have a := mem_ints.1 hx
   have b := mem_ints.1 hy
   have := turned_then hp hq hl a.1 a.2 b.1 b.2
   omega
 rw [dsum_add, dsum_add, dsum_add, e] at h1
 have h2 : dsum (ints p.length) (fun x y => turned q (rd p x) (rd p y)) = inv2 q := by
  rw [← dsum_map (ints p.length) (rd p ·) (turned q), dsum_perm (ints_map hp), inv2, hl]
 have h3 : inv2 (thenL p q) = dsum (ints p.length) (fun x y => turned (thenL p q) x y) := by rw [inv2, thenL_length]
 have h4 : inv2 p = dsum (ints p.length) (fun x y => turned p x y) := rfl
 have h5 : dsum (ints p.length) (fun x y => turned p x y) = dsum (ints p.length) (turned p) := rfl
 have h6 : dsum (ints p.length) (fun x y => turned (thenL p q) x y) = dsum (ints p.length) (turned (thenL p q)) := rfl
 omega
theorem sum_zero {α : Type} (l : List α) : (l.map fun _ => (0 : Nat)).sum = 0 := by
 induction l with
 | nil => rfl
 | cons x l ih => simpa using ih
theorem inv2_id {p : List Int} (h : ∀ x : Int, 0 ≤ x → x < (p.length : Int) → rd p x = x) : inv2 p = 0 := by
 have : dsum (ints p.length) (turned p) = dsum (ints p.length) (fun _ _ => 0) := dsum_congr fun x hx y hy => by
  have a := mem_ints.1 hx
  have b := mem_ints.1 hy
  rw [turned, h x a.1 a.2, h y b.1 b.2, if_neg (by omega)]
 rw [inv2, this, dsum, sum_zero, sum_zero]
theorem inv2_inv {p : List Int} (hp : IsPerm p) : ∃ k, 4 * k = inv2 p + inv2 (invL p) := by
 obtain ⟨k, e⟩ := inv2_then hp hp.inv (by rw [invL_length])
 refine ⟨k, ?_⟩
 rw [inv2_id (p := thenL p (invL p)) fun x h0 h1 => by
  rw [thenL_length] at h1
  rw [rd_then h0 h1, rd_inv_of hp h0 h1]] at e
 omega
/-- Inversions of a list: each number, and the lesser ones behind it. -/
def invC : List Int → Nat
 | [] => 0
 | x :: l => l.countP (fun y => decide (y < x)) + invC l
def zipF : Int → List Int → List (Int × Int)
 | _, [] => []
 | k, a :: l => (k, a) :: zipF (k + 1) l
theorem zipF_le : ∀ (l : List Int) (k : Int), ∀ z ∈ zipF k l, k ≤ z.1
 | [], _, z, h => by simp [zipF] at h
 | a :: l, k, z, h => by
  rcases List.mem_cons.1 h with rfl | h
  ·exact Int.le_refl _
  ·have := zipF_le l (k + 1) z h; omega
def turnedZ (a b : Int × Int) : Nat := if (a.1 < b.1 ∧ b.2 < a.2) ∨ (b.1 < a.1 ∧ a.2 < b.2) then 1 else 0
theorem zipF_snd : ∀ (l : List Int) (k : Int), (zipF k l).map Prod.snd = l
 | [], _ => rfl
 | a :: l, k => by rw [zipF, List.map_cons, zipF_snd l]
theorem sum_count {α : Type} (l : List α) (f : α → Bool) : (l.map fun x => if f x = true then 1 else 0).sum = l.countP f := by
 induction l with
 | nil => rfl
 | cons x l ih =>
  rw [List.map_cons, List.sum_cons, ih, List.countP_cons]
  omega
theorem dsum_zip : ∀ (l : List Int) (k : Int), dsum (zipF k l) turnedZ = 2 * invC l
 | [], _ => rfl
 | a :: l, k => by
  rw [zipF, dsum_cons (k, a) (zipF (k + 1) l) turnedZ (by unfold turnedZ; exact if_neg (by omega)) (fun y _ => by
   unfold turnedZ
   by_cases c : (y.1 < k ∧ a < y.2) ∨ (k < y.1 ∧ y.2 < a)
   ·rw [if_pos c, if_pos c.symm]
   ·rw [if_neg c, if_neg (fun z => c z.symm)]), dsum_zip l (k + 1), invC]
  have : ((zipF (k + 1) l).map fun y => turnedZ (k, a) y) = (zipF (k + 1) l).map fun y => if (fun y : Int × Int => decide (y.2 < a)) y = true then 1 else 0 :=
   List.map_congr_left fun y hy => by
    have := zipF_le l (k + 1) y hy
    unfold turnedZ
    by_cases c : y.2 < a
    ·rw [if_pos (.inl ⟨by simp only; omega, c⟩), if_pos (by simpa using c)]
    ·rw [if_neg (by simp only; omega), if_neg (by simpa using c)]
  rw [this, sum_count, show (zipF (k + 1) l).countP (fun y : Int × Int => decide (y.2 < a)) = l.countP (fun y => decide (y < a)) by
   conv => rhs; rw [← zipF_snd l (k + 1)]
   rw [List.countP_map]
   rfl]
  omega
theorem zipF_get : ∀ (l : List Int) (k : Int) (i : Nat), (zipF k l)[i]? = (l[i]?).map fun a => (k + (i : Int), a)
 | [], _, i => by simp [zipF]
 | a :: l, k, 0 => by simp [zipF]
 | a :: l, k, i + 1 => by
  rw [zipF, List.getElem?_cons_succ, zipF_get l (k + 1) i, List.getElem?_cons_succ]
  rw [show k + 1 + (i : Int) = k + ((i + 1 : Nat) : Int) by omega]
theorem inv2_eq (p : List Int) : inv2 p = 2 * invC p := by
 rw [← dsum_zip p 0, inv2]
 have : zipF 0 p = (ints p.length).map fun x => (x, rd p x) := by
  apply List.ext_getElem?
  intro i
  rw [zipF_get]
  by_cases h : i < p.length
  ·simp [ints, h, rd]
  ·simp [ints, h]
 rw [this, dsum_map]
 rfl
theorem invC_append : ∀ (l m : List Int), (∀ x ∈ l, ∀ y ∈ m, x < y) → invC (l ++ m) = invC l + invC m
 | [], m, _ => by simp [invC]
 | x :: l, m, h => by
  rw [List.cons_append, invC, invC, invC_append l m (fun x hx y hy => h x (by simp [hx]) y hy), List.countP_append]
  have : m.countP (fun y => decide (y < x)) = 0 := List.countP_eq_zero.2 fun y hy => by have := h x (by simp) y hy; simp; omega
  omega
/-- Numbers one behind the other. -/
def up : Int → Nat → List Int
 | _, 0 => []
 | a, m + 1 => a :: up (a + 1) m
theorem mem_up : ∀ (m : Nat) (a x : Int), x ∈ up a m ↔ a ≤ x ∧ x < a + (m : Int)
 | 0, a, x => by simp only [up, List.not_mem_nil, false_iff]; omega
 | m + 1, a, x => by
  rw [up, List.mem_cons, mem_up m]
  omega
theorem up_length : ∀ (m : Nat) (a : Int), (up a m).length = m
 | 0, _ => rfl
 | m + 1, a => by rw [up, List.length_cons, up_length m]
theorem invC_up : ∀ (m : Nat) (a b : Int), b < a → invC (up a m ++ [b]) = m
 | 0, a, b, _ => rfl
 | m + 1, a, b, h => by
  rw [up, List.cons_append, invC, invC_up m (a + 1) b (by omega), List.countP_append]
  have : (up (a + 1) m).countP (fun y => decide (y < a)) = 0 := List.countP_eq_zero.2 fun y hy => by have := (mem_up m _ y).1 hy; simp; omega
  rw [this]
  simp [h]
  omega
/-- Blocks: in each of them one step on, the last one to the first one. -/
def blks : Int → List Nat → List Int
 | _, [] => []
 | o, L :: r => (up (o + 1) (L - 1) ++ [o]) ++ blks (o + (L : Int)) r
theorem mem_blks : ∀ (r : List Nat) (o : Int), (∀ L ∈ r, 0 < L) → ∀ x ∈ blks o r, o ≤ x ∧ x < o + (r.sum : Int)
 | [], o, _, x, h => by simp [blks] at h
 | L :: r, o, hp, x, h => by
  have := hp L (by simp)
  rw [List.sum_cons]
  rw [blks, List.mem_append, List.mem_append, mem_up, List.mem_singleton] at h
  rcases h with (h | h) | h
  ·omega
  ·omega
  ·have := mem_blks r _ (fun L hL => hp L (by simp [hL])) x h
   omega
theorem invC_blks : ∀ (r : List Nat) (o : Int), (∀ L ∈ r, 0 < L) → invC (blks o r) + r.length = r.sum
 | [], o, _ => rfl
 | L :: r, o, hp => by
  have p := hp L (by simp)
  have ih := invC_blks r (o + (L : Int)) (fun L hL => hp L (by simp [hL]))
  rw [blks, invC_append _ _ (fun x hx y hy => by
   have a := (mem_blks r _ (fun L hL => hp L (by simp [hL])) y hy).1
   rw [List.mem_append, mem_up, List.mem_singleton] at hx
   omega), invC_up _ _ _ (by omega), List.length_cons, List.sum_cons]
  omega
theorem blks_length : ∀ (r : List Nat) (o : Int), (∀ L ∈ r, 0 < L) → (blks o r).length = r.sum
 | [], o, _ => rfl
 | L :: r, o, hp => by
  have p := hp L (by simp)
  rw [blks, List.length_append, List.length_append, up_length, blks_length r _ (fun L hL => hp L (by simp [hL])), List.sum_cons]
  simp
  omega
theorem IsCyc.map {p c pre suf : List Int} (h : IsCyc p c) : c.map (rd p ·) = (up ((pre.length : Int) + 1) (c.length - 1) ++ [(pre.length : Int)]).map (rd (pre ++ (c ++ suf)) ·) := by
 obtain ⟨a, e, ha⟩ := h.ex
 have pos := h.pos
 have up_get : ∀ (m : Nat) (b : Int) (i : Nat) (hi : i < m), (up b m)[i]? = some (b + (i : Int)) := fun m => by
  induction m with
  | zero => intro b i hi; omega
  | succ m ih =>
   intro b i hi
   cases i with
   | zero => simp [up]
   | succ i =>
    rw [up, List.getElem?_cons_succ, ih (b + 1) i (by omega)]
    congr 1
    omega
 have cg : ∀ j, j < c.length → c[j]? = some (powP p j a) := fun j hj => by
  rw [e]
  simp [hj]
 have wat : ∀ j, j < c.length → rd (pre ++ (c ++ suf)) ((pre.length : Int) + (j : Int)) = powP p j a := fun j hj => by
  rw [rd, show ((pre.length : Int) + (j : Int)).toNat = pre.length + j by omega, List.getD_eq_getElem?_getD, List.getElem?_append_right (by omega), show pre.length + j - pre.length = j by omega, List.getElem?_append_left hj, cg j hj]
  rfl
 apply List.ext_getElem?
 intro i
 rw [List.getElem?_map, List.getElem?_map]
 by_cases hi : i < c.length
 ·rw [cg i hi]
  by_cases hl : i + 1 < c.length
  ·rw [List.getElem?_append_left (by rw [up_length]; omega), up_get _ _ _ (by omega)]
   have := wat (i + 1) hl
   rw [show (pre.length : Int) + ((i + 1 : Nat) : Int) = (pre.length : Int) + 1 + (i : Int) by omega] at this
   simp only [Option.map_some, this]
   rfl
  ·rw [List.getElem?_append_right (by rw [up_length]; omega), up_length, show i - (c.length - 1) = 0 by omega]
   have := wat 0 pos
   rw [show (pre.length : Int) + ((0 : Nat) : Int) = (pre.length : Int) by omega] at this
   simp only [Option.map_some, List.getElem?_cons_zero, this]
   have z : powP p (i + 1) a = a := by rw [show i + 1 = c.length by omega]; exact ha
   exact congrArg some z
 ·rw [List.getElem?_eq_none (by omega), List.getElem?_eq_none (by rw [List.length_append, up_length]; simp; omega)]
  rfl
theorem cycs_map {p : List Int} : ∀ (cs : List (List Int)) (pre : List Int), (∀ c ∈ cs, IsCyc p c) → (cs.flatten).map (rd p ·) = (blks (pre.length : Int) (cs.map List.length)).map (rd (pre ++ cs.flatten) ·)
 | [], pre, _ => rfl
 | c :: cs, pre, h => by
  have ih := cycs_map cs (pre ++ c) (fun c hc => h c (by simp [hc]))
  rw [List.length_append, Int.natCast_add] at ih
  rw [List.flatten_cons, List.map_append, List.map_cons, blks, List.map_append, ← (h c (by simp)).map, ih, List.append_assoc]
/-- The inversions of a permutation, and the numbers less the cycles, are even together. -/
theorem inv2_cyc {p : List Int} (hp : IsPerm p) : ∃ a b : Nat, inv2 p + 2 * (cycL p).length + 4 * a = 2 * p.length + 4 * b := by
 obtain ⟨h1, h2, h3⟩ := cycL_spec hp
 have pm := flat_ints hp
 have lw : (cycL p).flatten.length = p.length := by rw [pm.length_eq]; simp [ints]
 have W : IsPerm (cycL p).flatten := ⟨fun x hx => (mem_ints.1 (pm.mem_iff.1 hx)).1, fun x hx => by rw [lw]; exact (mem_ints.1 (pm.mem_iff.1 hx)).2, h2⟩
 have pos : ∀ L ∈ (cycL p).map List.length, 0 < L := fun L hL => by
  obtain ⟨c, hc, rfl⟩ := List.mem_map.1 hL
  exact (h1 c hc).pos
 have sum : ((cycL p).map List.length).sum = p.length := cycLen_sum hp
 have bl : (blks 0 ((cycL p).map List.length)).length = p.length := by rw [blks_length _ _ pos, sum]
 have m := cycs_map (cycL p) [] h1
 rw [List.nil_append] at m
 have e : blks 0 ((cycL p).map List.length) = thenL (thenL (cycL p).flatten p) (invL (cycL p).flatten) := by
  apply List.ext_getElem (by rw [thenL_length, thenL_length, lw, bl])
  intro i i1 i2
  have hb := mem_blks _ 0 pos _ (List.getElem_mem i1)
  have g : rd (cycL p).flatten ((blks 0 ((cycL p).map List.length))[i]) = rd p ((cycL p).flatten[i]'(by omega)) := by
   have := congrArg (fun l : List Int => l[i]?) m
   simp only [List.getElem?_map] at this
   rw [List.getElem?_eq_getElem (by omega)] at this
   have i3 : i < (blks (([] : List Int).length : Int) ((cycL p).map List.length)).length := i1
   rw [List.getElem?_eq_getElem i3] at this
   exact (Option.some.inj this).symm
  rw [thenL_get _ _ (by rw [thenL_length]; omega), thenL_get _ _ (by omega), ← g, rd_inv_of W hb.1 (by rw [lw]; omega)]
 obtain ⟨k1, e1⟩ := inv2_then W hp lw
 obtain ⟨k2, e2⟩ := inv2_then (W.then hp lw) W.inv (by rw [thenL_length, invL_length])
 obtain ⟨k3, e3⟩ := inv2_inv W
 have c := invC_blks _ 0 pos
 rw [List.length_map, sum] at c
 have i2 := inv2_eq (blks 0 ((cycL p).map List.length))
 rw [← e] at e2
 exact ⟨k3, k1 + k2, by omega⟩
/-- A round has an even number of squares above its cycles. -/
theorem around_even {r u : List Int} (h : IsSurf r u) : ∃ k, (cycL (aroundL r u)).length + 2 * k = r.length := by
 have same := h.same
 have P := aroundL_perm h
 obtain ⟨k1, e1⟩ := inv2_then h.right h.up same
 obtain ⟨k2, e2⟩ := inv2_then h.right.inv h.up.inv (by rw [invL_length, invL_length]; exact same)
 obtain ⟨k3, e3⟩ := inv2_then (h.right.then h.up same) (h.right.inv.then h.up.inv (by rw [invL_length, invL_length]; exact same)) (by rw [thenL_length, thenL_length, invL_length])
 obtain ⟨k4, e4⟩ := inv2_inv h.right
 obtain ⟨k5, e5⟩ := inv2_inv h.up
 obtain ⟨a, b, e⟩ := inv2_cyc P
 have le : (cycL (aroundL r u)).length ≤ (cycLen (aroundL r u)).sum := by
  have : ∀ (l : List (List Int)), (∀ c ∈ l, 0 < c.length) → l.length ≤ (l.map List.length).sum := fun l => by
   induction l with
   | nil => intro _; simp
   | cons c l ih =>
    intro hc
    have := hc c (by simp)
    have := ih fun c hh => hc c (by simp [hh])
    simp only [List.length_cons, List.map_cons, List.sum_cons]
    omega
  exact this _ fun c hc => ((cycL_spec P).1 c hc).pos
 rw [cycLen_sum P, aroundL_length] at le
 rw [aroundL_length] at e
 have e3 : inv2 (aroundL r u) + 4 * k3 = inv2 (thenL r u) + inv2 (thenL (invL r) (invL u)) := e3
 exact ⟨(r.length - (cycL (aroundL r u)).length) / 2, by omega⟩

end Go.Proofs.Ytlohmpgbjgidpab.Q
namespace Go.Proofs.Ytlohmpgbjgidpab.Q
open Go.RowKit Go.Proofs.Ytlohmpgbjgidpab.P Go.Proofs.YtlohmpgbjgidpabW.PrintWords Go.Proofs.YtlohmpgbjgidpabW.PrintLast
/- What the constructors of the laws' arguments come to: some number within its bounds, some permutation. -/
theorem and255 (y : Int) : ∃ m : Nat, m < 256 ∧ Go.bits .and .i64 y 255 = (m : Int) := by
 have hx : (BitVec.ofInt 64 y).toNat &&& 255 ≤ 255 := Nat.and_le_right
 refine ⟨(BitVec.ofInt 64 y).toNat &&& 255, by omega, ?_⟩
 show IntKind.i64.wrap ((BitVec.ofInt 64 y &&& BitVec.ofInt 64 255).toNat : Int) = _
 rw [BitVec.toNat_and, show (BitVec.ofInt 64 255).toNat = 255 by decide]
 rw [i64_w]
 exact w64 (by omega) (by omega)
theorem byte_some (b : List Int) (i h : Int) (h0 : 0 ≤ i) (h1 : i ≤ (b.length : Int)) (hl : b.length < 4611686018427387904) : ∃ x i' h', spec_l01Byte.f b i h = some (x, i', h') ∧ (0 ≤ x ∧ x < 256) ∧ 0 ≤ i' ∧ i' ≤ (b.length : Int) := by
 unfold spec_l01Byte.f
 by_cases c : i < (b.length : Int)
 ·rw [if_pos c, if_pos h0]
  obtain ⟨m, hm, e⟩ := and255 (wrap64 ((Go.bits .and .i64 (Go.bits .xor .i64 ((wrap64 ((wrap64 (h * 6364136223846793005)) + 1442695040888963407)) / 8589934592) ((wrap64 ((wrap64 (h * 6364136223846793005)) + 1442695040888963407)) / 35184372088832)) 255) + (wrap64 (rd b i))))
  rw [e, w64 (by omega) (by omega)]
  exact ⟨_, _, _, rfl, by omega, by omega, by omega⟩
 ·rw [if_neg c]
  obtain ⟨m, hm, e⟩ := and255 (Go.bits .xor .i64 ((wrap64 ((wrap64 (h * 6364136223846793005)) + 1442695040888963407)) / 8589934592) ((wrap64 ((wrap64 (h * 6364136223846793005)) + 1442695040888963407)) / 35184372088832))
  rw [e]
  exact ⟨_, _, _, rfl, by omega, h0, h1⟩
theorem below_some (b : List Int) (i h n : Int) (h0 : 0 ≤ i) (h1 : i ≤ (b.length : Int)) (hl : b.length < 4611686018427387904) (n0 : 0 < n) (n1 : n ≤ 256) : ∃ x i' h', spec_l01Below.f b i h n = some (x, i', h') ∧ (0 ≤ x ∧ x < n) ∧ 0 ≤ i' ∧ i' ≤ (b.length : Int) := by
 obtain ⟨x, i', h', e, hx, hi⟩ := byte_some b i h h0 h1 hl
 unfold spec_l01Below.f
 rw [if_neg (by omega), if_pos n1, e]
 simp only [Option.bind_some]
 rw [if_neg (by omega)]
 refine ⟨_, _, _, rfl, ?_, hi⟩
 rw [Int.tmod_eq_emod_of_nonneg hx.1]
 exact ⟨Int.emod_nonneg _ (by omega), Int.emod_lt_of_pos _ n0⟩
theorem new_loop (l : List Int) (hl : l.length < 4611686018427387904) : ∀ (d i : Nat) (h : Int), i + d = l.length → ∃ h', Ev (fun k => spec_l01New.l0 k l h i) (l, 0, h') := by
 intro d
 induction d with
 | zero =>
  intro i h hi
  exact ⟨h, Ev.step (fun k => by rw [spec_l01New.l0]) (Ev.neg (by omega) (Ev.now _))⟩
 | succ d ih =>
  intro i h hi
  by_cases c : (i : Int) < 4000
  ·obtain ⟨h', e⟩ := ih (i + 1) (Go.bits .and .i64 (wrap64 ((wrap64 ((wrap64 (h * 109)) + (wrap64 (rd l i)))) + 7)) 1073741823) (by omega)
   refine ⟨h', Ev.step (fun k => by rw [spec_l01New.l0]) (Ev.pos (by omega) (Ev.pos c (Ev.pos (by omega) ?_)))⟩
   rw [w64n (by omega)]
   exact e
  ·exact ⟨h, Ev.step (fun k => by rw [spec_l01New.l0]) (Ev.pos (by omega) (Ev.neg c (Ev.now _)))⟩
theorem new_ev (l : List Int) (hl : l.length < 4611686018427387904) : ∃ h, Ev (fun k => spec_l01New.f k l) (l, 0, h) := by
 obtain ⟨h, e⟩ := new_loop l hl l.length 0 (wrap64 (2073 + (l.length : Int))) (by omega)
 exact ⟨h, Ev.same (fun k => by rw [spec_l01New.f]; rfl) e⟩
theorem swap_perm {y : List Int} (hy : IsPerm y) {a b : Nat} (ha : a < y.length) (hb : b < y.length) : IsPerm ((y.set b y[a]).set a y[b]) := by
 have at_ : ∀ (i : Nat) (hi : i < ((y.set b y[a]).set a y[b]).length), ∃ (j : Nat) (hj : j < y.length), ((y.set b y[a]).set a y[b])[i] = y[j] ∧ (a = i ∧ j = b ∨ a ≠ i ∧ b = i ∧ j = a ∨ a ≠ i ∧ b ≠ i ∧ j = i) := by
  intro i hi
  simp only [List.length_set] at hi
  rw [List.getElem_set, List.getElem_set]
  by_cases c : a = i
  ·rw [if_pos c]; exact ⟨b, hb, rfl, .inl ⟨c, rfl⟩⟩
  ·rw [if_neg c]
   by_cases c' : b = i
   ·rw [if_pos c']; exact ⟨a, ha, rfl, .inr (.inl ⟨c, c', rfl⟩)⟩
   ·rw [if_neg c']; exact ⟨i, hi, rfl, .inr (.inr ⟨c, c', rfl⟩)⟩
 refine IsPerm.mk' (fun i hi => ?_) (fun i j hi hj e => ?_)
 ·obtain ⟨k, hk, z, _⟩ := at_ i hi
  rw [z, List.length_set, List.length_set]
  exact ⟨hy.get_lo hk, hy.get_hi hk⟩
 ·obtain ⟨k, hk, z, c⟩ := at_ i hi
  obtain ⟨k', hk', z', c'⟩ := at_ j hj
  rw [z, z'] at e
  have := hy.inj hk hk' e
  omega
theorem snoc_perm {p : List Int} (hp : IsPerm p) : IsPerm (p ++ [(p.length : Int)]) := by
 refine ⟨fun x hx => ?_, fun x hx => ?_, ?_⟩
 ·rcases List.mem_append.1 hx with hx | hx
  ·exact hp.lo x hx
  ·rw [List.mem_singleton.1 hx]; omega
 ·rw [List.length_append]
  rcases List.mem_append.1 hx with hx | hx
  ·have := hp.hi x hx; simp; omega
  ·rw [List.mem_singleton.1 hx]; simp; omega
 ·refine List.nodup_append.2 ⟨hp.nodup, by simp, fun x hx y hy e => ?_⟩
  rw [List.mem_singleton] at hy
  have := hp.hi x hx
  omega
theorem draw_loop (b : List Int) (hl : b.length < 4611686018427387904) (n : Nat) (hn : n ≤ 24) : ∀ (d m : Nat) (p : List Int) (i h : Int), m + d = n → p.length = m → IsPerm p → 0 ≤ i → i ≤ (b.length : Int) →
  ∃ q i' h', Ev (fun k => spec_l02Draw.l0 k n p m b i h) (q, i', h') ∧ (IsPerm q ∧ q.length = n) ∧ 0 ≤ i' ∧ i' ≤ (b.length : Int) := by
 intro d
 induction d with
 | zero =>
  intro m p i h hm lp hp h0 h1
  exact ⟨p, i, h, Ev.step (fun k => by rw [spec_l02Draw.l0]) (Ev.neg (by omega) (Ev.now _)), ⟨hp, by omega⟩, h0, h1⟩
 | succ d ih =>
  intro m p i h hm lp hp h0 h1
  obtain ⟨x, i', h', e, hx, a, c⟩ := below_some b i h ((m + 1 : Nat) : Int) h0 h1 hl (by omega) (by omega)
  obtain ⟨t, rfl⟩ := Int.eq_ofNat_of_zero_le hx.1
  have P := snoc_perm hp
  rw [lp] at P
  have ly : (p ++ [(m : Int)]).length = m + 1 := by rw [List.length_append, lp]; rfl
  have ym : (p ++ [(m : Int)])[m]'(by omega) = (m : Int) := by rw [List.getElem_append_right (by omega)]; simp [lp]
  have S := swap_perm P (a := t) (b := m) (by omega) (by omega)
  rw [ym] at S
  obtain ⟨q, i2, h2, e2, f⟩ := ih (m + 1) _ i' h' (by omega) (by rw [List.length_set, List.length_set, ly]) S a c
  refine ⟨q, i2, h2, Ev.step (fun k => by rw [spec_l02Draw.l0]) (Ev.pos (by omega) ?_), f⟩
  rw [w64n (by omega)]
  refine Ev.plain e (Ev.pos (by omega) (Ev.plain rfl ?_))
  simp only
  refine Ev.pos (by omega) (Ev.pos (by omega) (Ev.pos (by omega) (Ev.pos (by omega) ?_)))
  rw [Int.toNat_natCast, Int.toNat_natCast, rdg (by omega)]
  exact e2
theorem draw_ev (b : List Int) (hl : b.length < 4611686018427387904) (n : Nat) (hn : n ≤ 24) (i h : Int) (h0 : 0 ≤ i) (h1 : i ≤ (b.length : Int)) :
  ∃ q i' h', Ev (fun k => spec_l02Draw.f k b i h (n : Int)) (q, i', h') ∧ (IsPerm q ∧ q.length = n) ∧ 0 ≤ i' ∧ i' ≤ (b.length : Int) := by
 obtain ⟨q, i', h', e, f⟩ := draw_loop b hl n hn n 0 [] i h (by omega) rfl ⟨by simp, by simp, by simp⟩ h0 h1
 exact ⟨q, i', h', Ev.same (fun k => by rw [spec_l02Draw.f]; rfl) e, f⟩

end Go.Proofs.Ytlohmpgbjgidpab.Q
namespace Go.Proofs.Ytlohmpgbjgidpab.Q
open Go.RowKit Go.Proofs.Ytlohmpgbjgidpab.P Go.Proofs.YtlohmpgbjgidpabW.PrintWords Go.Proofs.YtlohmpgbjgidpabW.PrintLast
/- The reference's move Shear. -/
theorem spec_l05Shear_ev (r u : List Int) (h : IsSurf r u) : Ev (fun k => spec_l05Shear.f k r u) (shearV r u) := by
 have := h.le
 refine Ev.same (fun k => by rw [spec_l05Shear.f]) (Ev.plain rfl ?_)
 refine Ev.pos (by simp; omega) ?_
 refine Ev.bind (spec_l02Inverse_ev r h.right h.le) ?_
 exact Ev.bind (spec_l02Then_ev (invL r) u (perm_in h.right.inv (by rw [invL_length, h.same])) (by rw [invL_length]; exact h.le)) (Ev.now (r, thenL (invL r) u))

end Go.Proofs.Ytlohmpgbjgidpab.Q
namespace Go.Proofs.Ytlohmpgbjgidpab.Q
open Go.RowKit Go.Proofs.Ytlohmpgbjgidpab.P Go.Proofs.YtlohmpgbjgidpabW.PrintWords Go.Proofs.YtlohmpgbjgidpabW.PrintLast
/- The surfaces that the laws draw are valid. -/
def surfOf (x : Option (List Int × List Int × Bool)) : Bool := match x with
 | some x => transB x.1 x.2.1
 | none => false
set_option maxRecDepth 100000 in
theorem tor_all : ∀ w : Fin 5, ∀ h : Fin 4, 1 ≤ w.val → 1 ≤ h.val → surfOf (spec_TorusOf.f 60 (w.val : Int) (h.val : Int)) = true := by decide +kernel
set_option maxRecDepth 100000 in
theorem ell_four : ∀ w : Fin 6, ∀ h : Fin 5, 1 ≤ w.val → 1 ≤ h.val → surfOf (spec_EllOf.f 60 (w.val : Int) (h.val : Int)) = true := by decide +kernel
theorem tor_ev {a b : Int} (h : 1 ≤ a ∧ a ≤ 4 ∧ 1 ≤ b ∧ b ≤ 3) : ∃ r u z, Ev (fun k => spec_TorusOf.f k a b) (r, u, z) ∧ IsSurf r u := by
 have := tor_all ⟨a.toNat, by omega⟩ ⟨b.toNat, by omega⟩ (by simp only; omega) (by simp only; omega)
 simp only at this
 rw [Int.toNat_of_nonneg (by omega), Int.toNat_of_nonneg (by omega)] at this
 cases e : spec_TorusOf.f 60 a b with
 | none => rw [e] at this; cases this
 | some x =>
  rw [e] at this
  exact ⟨x.1, x.2.1, x.2.2, Ev.of (spec_TorusOf.mono a b) e, (transB_iff _ _).1 this⟩
theorem ell4_ev {a b : Int} (h : 1 ≤ a ∧ a ≤ 5 ∧ 1 ≤ b ∧ b ≤ 4) : ∃ r u z, Ev (fun k => spec_EllOf.f k a b) (r, u, z) ∧ IsSurf r u := by
 have := ell_four ⟨a.toNat, by omega⟩ ⟨b.toNat, by omega⟩ (by simp only; omega) (by simp only; omega)
 simp only at this
 rw [Int.toNat_of_nonneg (by omega), Int.toNat_of_nonneg (by omega)] at this
 cases e : spec_EllOf.f 60 a b with
 | none => rw [e] at this; cases this
 | some x =>
  rw [e] at this
  exact ⟨x.1, x.2.1, x.2.2, Ev.of (spec_EllOf.mono a b) e, (transB_iff _ _).1 this⟩
theorem draw3_loop (b : List Int) (hl : b.length < 4611686018427387904) (n : Nat) (n0 : 0 < n) (hn : n ≤ 5) : ∀ (d m : Nat) (i h : Int), m + d = 8 → 0 ≤ i → i ≤ (b.length : Int) →
  ∃ r u i' h', Ev (fun k => spec_l03Draw.l0 k n m b i h) (r, u, i', h') ∧ IsSurf r u := by
 intro d
 induction d with
 | zero =>
  intro m i h hm h0 h1
  obtain ⟨r, u, z, e, s⟩ := ell4_ev (a := (n : Int)) (b := 1) (by omega)
  exact ⟨r, u, i, h, Ev.step (fun k => by rw [spec_l03Draw.l0]) (Ev.neg (by omega) (Ev.bind e (Ev.now _))), s⟩
 | succ d ih =>
  intro m i h hm h0 h1
  obtain ⟨p, i1, h1', e1, ⟨p1, p2⟩, a1, a2⟩ := draw_ev b hl n (by omega) i h h0 h1
  obtain ⟨q, i2, h2', e2, ⟨q1, q2⟩, b1, b2⟩ := draw_ev b hl n (by omega) i1 h1' a1 a2
  by_cases c : transB p q = true
  ·refine ⟨p, q, i2, h2', Ev.step (fun k => by rw [spec_l03Draw.l0]) (Ev.pos (by omega) (Ev.bind e1 (Ev.bind e2 (Ev.bind (spec_SurfaceOk_ev p q (by omega) (by omega)) ?_)))), (transB_iff _ _).1 c⟩
   exact Ev.pos c (Ev.now _)
  ·obtain ⟨r, u, i3, h3, e3, s⟩ := ih (m + 1) i2 h2' (by omega) b1 b2
   refine ⟨r, u, i3, h3, Ev.step (fun k => by rw [spec_l03Draw.l0]) (Ev.pos (by omega) (Ev.bind e1 (Ev.bind e2 (Ev.bind (spec_SurfaceOk_ev p q (by omega) (by omega)) ?_)))), s⟩
   refine Ev.neg c ?_
   rw [w64n (by omega)]
   exact e3
theorem shears_loop : ∀ (d : Nat) (r u : List Int), d ≤ 1000 → IsSurf r u → ∃ r' u', Ev (fun k => spec_MakeSurface.l0 k (d : Int) r u) (r', u') ∧ IsSurf r' u'
 | 0, r, u, _, h => ⟨r, u, Ev.step (fun k => by rw [spec_MakeSurface.l0]) (Ev.neg (by omega) (Ev.now _)), h⟩
 | d + 1, r, u, hd, h => by
  obtain ⟨r', u', e, s⟩ := shears_loop d (shearV r u).1 (shearV r u).2 (by omega) (shear_surf h)
  refine ⟨r', u', Ev.step (fun k => by rw [spec_MakeSurface.l0]) (Ev.pos (by omega) (Ev.bind (spec_l05Shear_ev r u h) ?_)), s⟩
  rw [show wrap64 (((d + 1 : Nat) : Int) - 1) = (d : Int) by rw [w64 (by omega) (by omega)]; omega]
  exact e
/-- Some valid surface. -/
theorem MakeSurface_ev (l : List Int) (hl : l.length < 4611686018427387904) : ∃ r u, Ev (fun k => spec_MakeSurface.f k l) (r, u) ∧ IsSurf r u := by
 obtain ⟨h, e⟩ := new_ev l hl
 obtain ⟨x, i1, h1, e1, x1, a1, b1⟩ := below_some l 0 h 4 (by omega) (by omega) hl (by omega) (by omega)
 by_cases c0 : x = 0
 ·obtain ⟨y, i2, h2, e2, y1, a2, b2⟩ := below_some l i1 h1 4 a1 b1 hl (by omega) (by omega)
  obtain ⟨z, i3, h3, e3, z1, a3, b3⟩ := below_some l i2 h2 3 a2 b2 hl (by omega) (by omega)
  obtain ⟨r, u, t, e4, s⟩ := tor_ev (a := wrap64 (1 + y)) (b := wrap64 (1 + z)) (by rw [w64 (by omega) (by omega), w64 (by omega) (by omega)]; omega)
  obtain ⟨v, i5, h5, e5, v1, a5, b5⟩ := below_some l i3 h3 4 a3 b3 hl (by omega) (by omega)
  obtain ⟨d, rfl⟩ := Int.eq_ofNat_of_zero_le v1.1
  obtain ⟨r', u', e6, s'⟩ := shears_loop d r u (by omega) s
  refine ⟨r', u', Ev.same (fun k => by rw [spec_MakeSurface.f]) (Ev.bind e (Ev.plain e1 (Ev.pos c0 ?_))), s'⟩
  refine Ev.plain e2 ?_
  refine Ev.plain e3 ?_
  refine Ev.bind e4 ?_
  refine Ev.plain e5 ?_
  exact e6
 ·by_cases c1 : x = 1
  ·obtain ⟨y, i2, h2, e2, y1, a2, b2⟩ := below_some l i1 h1 4 a1 b1 hl (by omega) (by omega)
   obtain ⟨z, i3, h3, e3, z1, a3, b3⟩ := below_some l i2 h2 4 a2 b2 hl (by omega) (by omega)
   obtain ⟨r, u, t, e4, s⟩ := ell4_ev (a := wrap64 (1 + y)) (b := wrap64 (1 + z)) (by rw [w64 (by omega) (by omega), w64 (by omega) (by omega)]; omega)
   refine ⟨r, u, Ev.same (fun k => by rw [spec_MakeSurface.f]) (Ev.bind e (Ev.plain e1 (Ev.neg c0 (Ev.pos c1 ?_)))), s⟩
   refine Ev.plain e2 ?_
   refine Ev.plain e3 ?_
   refine Ev.bind e4 ?_
   exact Ev.now _
  ·obtain ⟨y, i2, h2, e2, y1, a2, b2⟩ := below_some l i1 h1 5 a1 b1 hl (by omega) (by omega)
   obtain ⟨n, rfl⟩ := Int.eq_ofNat_of_zero_le y1.1
   obtain ⟨r, u, i3, h3, e3, s⟩ := draw3_loop l hl (n + 1) (by omega) (by omega) 8 0 i2 h2 (by omega) a2 b2
   refine ⟨r, u, Ev.same (fun k => by rw [spec_MakeSurface.f]) (Ev.bind e (Ev.plain e1 (Ev.neg c0 (Ev.neg c1 ?_)))), s⟩
   have e4 : Ev (fun k => spec_l03Draw.f k l i1 h1 5) (r, u, i3, h3) := by
    refine Ev.same (fun k => by rw [spec_l03Draw.f]) (Ev.plain e2 ?_)
    rw [show wrap64 (1 + (n : Int)) = ((n + 1 : Nat) : Int) by rw [w64 (by omega) (by omega)]; omega]
    exact e3
   refine Ev.bind e4 ?_
   exact Ev.now _

end Go.Proofs.Ytlohmpgbjgidpab.Q
namespace Go.Proofs.Ytlohmpgbjgidpab.Pure
open Go.RowKit Go.Proofs.Ytlohmpgbjgidpab.P Go.Proofs.YtlohmpgbjgidpabW.PrintWords Go.Proofs.YtlohmpgbjgidpabW.PrintLast Go.Proofs.Ytlohmpgbjgidpab.Q

theorem isum_perm {l m : List Int} (h : l.Perm m) : l.sum = m.sum := by
 induction h with
 | nil => rfl
 | cons x _ ih => simp [ih]
 | swap x y l => simp; omega
 | trans _ _ a b => exact a.trans b
theorem total_loop (l : List Int) (hl : l.length ≤ 24) (hm : ∀ x ∈ l, 0 ≤ x ∧ x ≤ 24) : ∀ (d i : Nat) (acc : Int), i + d = l.length → 0 ≤ acc → acc ≤ 24 * i → Ev (fun k => laws_total.l0 k acc l (l.length : Int) i) (acc + (l.drop i).sum) := by
 intro d
 induction d with
 | zero =>
  intro i acc h h0 h1
  refine Ev.step (fun k => by rw [laws_total.l0]) (Ev.neg (by omega) ?_)
  rw [List.drop_of_length_le (by omega)]
  simp
  exact Ev.now _
 | succ d ih =>
  intro i acc h h0 h1
  have m := hm _ (List.getElem_mem (show i < l.length by omega))
  refine Ev.step (fun k => by rw [laws_total.l0]) (Ev.pos (by omega) (Ev.pos (by omega) (Ev.pos (by omega) ?_)))
  have := ih (i + 1) (acc + l[i]'(by omega)) (by omega) (by omega) (by omega)
  rw [rdg (by omega), w64n (by omega), w64 (by omega) (by omega), List.drop_eq_getElem_cons (by omega), List.sum_cons, ← Int.add_assoc]
  exact this
theorem total_ev (l : List Int) (hl : l.length ≤ 24) (hm : ∀ x ∈ l, 0 ≤ x ∧ x ≤ 24) : Ev (fun k => laws_total.f k l) l.sum := by
 refine Ev.same (fun k => by rw [laws_total.f]) ?_
 have := total_loop l hl hm l.length 0 0 (by omega) (by omega) (by omega)
 rw [List.drop_zero, Int.zero_add] at this
 exact this
theorem has_loop (l : List Int) (x : Int) (hn : l.length < 1000000) : ∀ (d i : Nat), i + d = l.length → Ev (fun k => laws_has.l0 k x l (l.length : Int) i) ((l.drop i).contains x) := by
 intro d
 induction d with
 | zero =>
  intro i h
  refine Ev.step (fun k => by rw [laws_has.l0]) (Ev.neg (by omega) ?_)
  rw [List.drop_of_length_le (by omega)]
  exact Ev.now _
 | succ d ih =>
  intro i h
  refine Ev.step (fun k => by rw [laws_has.l0]) (Ev.pos (by omega) (Ev.pos (by omega) (Ev.pos (by omega) ?_)))
  have hi := ih (i + 1) (by omega)
  rw [rdg (by omega), w64n (by omega), List.drop_eq_getElem_cons (by omega), List.contains_cons]
  by_cases e : l[i]'(by omega) = x
  ·refine Ev.pos e ?_
   rw [show (x == l[i]'(by omega)) = true by simp [e], Bool.true_or]
   exact Ev.now _
  ·refine Ev.neg e ?_
   rw [show (x == l[i]'(by omega)) = false by simpa using fun h => e h.symm, Bool.false_or]
   exact hi
theorem has_ev (l : List Int) (x : Int) (hn : l.length < 1000000) : Ev (fun k => laws_has.f k l x) (l.contains x) := by
 refine Ev.same (fun k => by rw [laws_has.f]) ?_
 exact has_loop l x hn l.length 0 (by omega)
/-- The length of the last list that holds a number. -/
def fd (x : Int) : List (List Int) → Int → Int
 | [], acc => acc
 | c :: cs, acc => fd x cs (if c.contains x = true then (c.length : Int) else acc)
theorem fd_spec (x : Int) : ∀ (cs : List (List Int)) (acc : Int), (fd x cs acc = acc ∧ ∀ c ∈ cs, x ∉ c) ∨ ∃ c ∈ cs, x ∈ c ∧ fd x cs acc = (c.length : Int)
 | [], acc => .inl ⟨rfl, by simp⟩
 | c :: cs, acc => by
  rw [fd]
  by_cases m : x ∈ c
  ·rw [if_pos (by simpa using m)]
   rcases fd_spec x cs (c.length : Int) with ⟨e, _⟩ | ⟨c', h, h', e⟩
   ·exact .inr ⟨c, by simp, m, e⟩
   ·exact .inr ⟨c', by simp [h], h', e⟩
  ·rw [if_neg (by simpa using m)]
   rcases fd_spec x cs acc with ⟨e, h⟩ | ⟨c', h, h', e⟩
   ·exact .inl ⟨e, fun c' hc => by
     rcases List.mem_cons.1 hc with rfl | hc
     ·exact m
     ·exact h c' hc⟩
   ·exact .inr ⟨c', by simp [h], h', e⟩
theorem rdLC {xs : List (List Int)} {i : Nat} (h : i < xs.length) : rd_L3 xs (i : Int) = xs[i] := by simp [rd_L3, h]
theorem found_loop (cs : List (List Int)) (hl : cs.length ≤ 24) (hc : ∀ c ∈ cs, c.length ≤ 24) (x n i : Int) (r u : List Int) (b : Bool) (fin : Ev (fun k => laws_FnCorners.l1 k cs x (fd x cs 0) n i cs (cs.length : Int) (cs.length : Int) r u) b) :
  ∀ (d j : Nat) (acc : Int), j + d = cs.length → fd x (cs.drop j) acc = fd x cs 0 → Ev (fun k => laws_FnCorners.l1 k cs x acc n i cs (cs.length : Int) j r u) b := by
 intro d
 induction d with
 | zero =>
  intro j acc h e
  rw [List.drop_of_length_le (by omega), fd] at e
  rw [e, show j = cs.length by omega]
  exact fin
 | succ d ih =>
  intro j acc h e
  rw [List.drop_eq_getElem_cons (by omega), fd] at e
  have m := hc _ (List.getElem_mem (show j < cs.length by omega))
  refine Ev.step (fun k => by rw [laws_FnCorners.l1]) (Ev.pos (by omega) (Ev.pos (by omega) (Ev.pos (by omega) ?_)))
  rw [rdLC (by omega), w64n (by omega)]
  refine Ev.bind (has_ev _ x (by omega)) ?_
  by_cases c : (cs[j]'(by omega)).contains x = true
  ·rw [if_pos c] at e
   exact Ev.pos c (ih (j + 1) _ (by omega) e)
  ·rw [if_neg c] at e
   exact Ev.neg c (ih (j + 1) _ (by omega) e)
theorem regular_iff {p : List Int} (hp : IsPerm p) {x : Int} (h0 : 0 ≤ x) (h1 : x < (p.length : Int)) : (rd p x == x) = (fd x (cycL p) 0 == 1) := by
 obtain ⟨a, b, c⟩ := cycL_spec hp
 have mem := c x.toNat (by omega)
 rw [Int.toNat_of_nonneg h0] at mem
 obtain ⟨c0, m0, x0⟩ := List.mem_flatten.1 mem
 have key : (rd p x == x) = isPer p 1 x := by
  unfold isPer
  rw [Bool.eq_iff_iff, beq_iff_eq, decide_eq_true_eq]
  exact ⟨fun h => ⟨by omega, h, fun k hk k0 => by omega⟩, fun h => h.2.1⟩
 rcases fd_spec x (cycL p) 0 with ⟨_, h⟩ | ⟨c', m', x', e⟩
 ·exact absurd x0 (h c0 m0)
 ·rw [key, (a c' m').per hp x' 1, e, Bool.eq_iff_iff, beq_iff_eq, beq_iff_eq]
  omega
theorem squares_loop {r u : List Int} (h : IsSurf r u) : ∀ (d i : Nat), i + d = r.length → Ev (fun k => laws_FnCorners.l0 k (cycL (aroundL r u)) (r.length : Int) i r u) true := by
 have le := h.le
 have P := aroundL_perm h
 have cb := corners_sum r u
 rw [cornersB, if_pos ((transB_iff r u).2 h)] at cb
 intro d
 induction d with
 | zero =>
  intro i hi
  exact Ev.step (fun k => by rw [laws_FnCorners.l0]) (Ev.neg (by omega) (Ev.now _))
 | succ d ih =>
  intro i hi
  refine Ev.step (fun k => by rw [laws_FnCorners.l0]) (Ev.pos (by omega) ?_)
  refine found_loop _ cb.2.1 cb.2.2 (i : Int) _ _ _ _ _ ?_ (cycL (aroundL r u)).length 0 0 (by omega) (by rw [List.drop_zero])
  refine Ev.step (fun k => by rw [laws_FnCorners.l1]) (Ev.neg (by omega) (Ev.bind (impl_IsRegularCorner_ev r u (i : Int)) ?_))
  rw [regB, if_pos ⟨(transB_iff r u).2 h, by omega, by omega⟩, regular_iff P (by omega) (by rw [aroundL_length]; omega), w64n (by omega)]
  exact Ev.neg (by simp) (ih (i + 1) (by omega))
theorem less_sum : ∀ (l : List Int), (∀ x ∈ l, 1 ≤ x) → (lessL1 l).sum + (l.length : Int) = l.sum
 | [], _ => rfl
 | x :: l, h => by
  have ih := less_sum l fun y hy => h y (by simp [hy])
  have hx := h x (by simp)
  unfold lessL1 at ih ⊢
  by_cases c : x > 1
  ·simp only [List.filter_cons, c, decide_true, if_true, List.map_cons, List.sum_cons, List.length_cons]
   omega
  ·simp only [List.filter_cons, c, decide_false, List.sum_cons, List.length_cons]
   simp only [Bool.false_eq_true, if_false]
   omega
theorem lens_sum (cs : List (List Int)) : (lensL cs).sum = (((cs.map List.length).sum : Nat) : Int) := by
 unfold lensL
 induction cs with
 | nil => rfl
 | cons c cs ih => simp only [List.map_cons, List.sum_cons, ih]; omega
theorem FnCorners : laws_FnCorners.Pure := by
 intro l _ _ _
 refine Ev.out ?_
 refine Ev.same (fun k => by rw [laws_FnCorners.f]) ?_
 by_cases h : (l.length : Int) > 1048576
 ·exact Ev.pos h (Ev.now _)
 refine Ev.neg h ?_
 obtain ⟨r, u, e, s⟩ := MakeSurface_ev l (by omega)
 have le := s.le
 have tr := (transB_iff r u).2 s
 have P := aroundL_perm s
 have cb : cornersB r u = cycL (aroundL r u) := by rw [cornersB, if_pos tr]
 have cs := corners_sum r u
 rw [cb] at cs
 have sum : ((cycL (aroundL r u)).map List.length).sum = r.length := by rw [← aroundL_length r u]; exact cycLen_sum P
 obtain ⟨j, ej⟩ := around_even s
 have asum : (angB r u).sum = (r.length : Int) := by rw [angB, isum_perm (descL_spec _).1, lens_sum, cb, sum]
 have alen : (angB r u).length = (cycL (aroundL r u)).length := by rw [angB, descL_length, lensL, List.length_map, cb]
 have apos : ∀ x ∈ angB r u, 1 ≤ x := fun x hx => by
  have := (descL_spec _).1.mem_iff.1 hx
  rw [cb] at this
  obtain ⟨c, hc, rfl⟩ := List.mem_map.1 this
  have := ((cycL_spec P).1 c hc).pos
  omega
 have ssum := less_sum _ apos
 have smem : ∀ x ∈ strB r u, 0 ≤ x ∧ x ≤ 24 := fun x hx => by
  obtain ⟨y, hy, rfl⟩ := List.mem_map.1 hx
  have := angB_mem r u y (List.mem_filter.1 hy).1
  have := (List.mem_filter.1 hy).2
  simp at this
  omega
 have g : genusB r u = 1 + (j : Int) := by
  rw [genusB, if_pos tr, cb, w64 (x := (r.length : Int) - _) (by omega) (by omega), show (r.length : Int) - ((cycL (aroundL r u)).length : Int) = 2 * (j : Int) by omega, Int.mul_tdiv_cancel_left _ (by omega), w64 (x := (j : Int)) (by omega) (by omega), w64 (by omega) (by omega)]
 refine Ev.bind e ?_
 refine Ev.bind (impl_AnglesOf_ev r u) (Ev.bind (impl_StratumOf_ev r u) (Ev.bind (impl_CornersOf_ev r u) (Ev.bind (impl_GenusOf_ev r u) ?_)))
 refine Ev.bind (total_ev _ (angB_length r u) (angB_mem r u)) ?_
 refine Ev.pos asum ?_
 rw [cb]
 refine Ev.pos (by rw [alen]) ?_
 rw [g]
 refine Ev.neg (by omega) ?_
 refine Ev.bind (total_ev _ (strB_length r u) smem) ?_
 refine Ev.pos ?_ ?_
 ·rw [w64 (x := 2 * (1 + (j : Int))) (by omega) (by omega), w64 (by omega) (by omega)]
  unfold strB
  omega
 refine Ev.bind (impl_AroundOf_ev r u) ?_
 rw [aroundB, if_pos tr]
 refine Ev.step (fun k => by rw [laws_FnCorners.j0]) (Ev.neg (by rw [aroundL_length]; simp) ?_)
 exact squares_loop s r.length 0 (by omega)

end Go.Proofs.Ytlohmpgbjgidpab.Pure

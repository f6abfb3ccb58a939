/- The law of permutations holds for all codes: they form a group, and renaming keeps the lengths of cycles. -/
import Derived.Test.YtlohmpgbjgidpacWMore
import Derived.Test.YtlohmpgbjgidpacPx12
import Derived.Test.YtlohmpgbjgidpacPx20
import Derived.Test.YtlohmpgbjgidpacPx27
import Derived.Test.YtlohmpgbjgidpacPx28
import Derived.Test.YtlohmpgbjgidpacPx29
import Derived.Test.YtlohmpgbjgidpacPx30
import Derived.Test.YtlohmpgbjgidpacPx31
import Derived.Test.YtlohmpgbjgidpacPx32
import Derived.Test.YtlohmpgbjgidpacPx33
import Derived.Test.YtlohmpgbjgidpacPx34
import Derived.Test.YtlohmpgbjgidpacPx35
import Derived.Test.YtlohmpgbjgidpacPx36
import Derived.Test.YtlohmpgbjgidpacPx37
import Derived.Test.YtlohmpgbjgidpacPx38
import Derived.Test.YtlohmpgbjgidpacPx39
import Derived.Test.YtlohmpgbjgidpacPx40
import Derived.Test.YtlohmpgbjgidpacPx41
set_option linter.unusedVariables false
set_option linter.unusedSimpArgs false

namespace Go.Proofs.Ytlohmpgbjgidpac.Q
open Go.RowKit Go.Proofs.Ytlohmpgbjgidpac.P Go.Proofs.YtlohmpgbjgidpacW.PrintWords Go.Proofs.YtlohmpgbjgidpacW.PrintLast
/- Small lemmas on the printed functions' words: numbers of 64 bits, elements of lists, rounds. -/
theorem w64 {x : Int} (h : -9223372036854775808 ≤ x) (h' : x ≤ 9223372036854775807) : wrap64 x = x := by
 unfold wrap64; omega
theorem w64n {i : Nat} (h : i < 9223372036854775807) : wrap64 ((i : Int) + 1) = ((i + 1 : Nat) : Int) := by
 rw [w64 (by omega) (by omega)]; omega
theorem rdn (xs : List Int) (i : Nat) : rd xs (i : Int) = xs.getD i 0 := by simp [rd]
theorem rdg {xs : List Int} {i : Nat} (h : i < xs.length) : rd xs (i : Int) = xs[i] := by simp [rd, h]
/-- From a round on. -/
theorem Ev.from {α : Type} {g : Nat → Option α} {r : α} {K : Nat} (h : ∀ k, K ≤ k → g k = some r) : Ev g r := ⟨K, h⟩
theorem Ev.succ {α : Type} {g f : Nat → Option α} {r : α} (h : ∀ k, g (k + 1) = f k) (hf : Ev f r) : Ev g r := Ev.step h hf
theorem Ev.plain {α β : Type} {x : Option α} {f : Nat → α → Option β} {a : α} {r : β} (h : x = some a) (k : Ev (fun n => f n a) r) : Ev (fun n => x.bind (f n)) r := by
 subst h; exact k
theorem Ev.pos {α : Type} {c : Prop} [Decidable c] {g f : Nat → Option α} {r : α} (h : c) (hg : Ev g r) : Ev (fun k => if c then g k else f k) r := by
 simp only [if_pos h]; exact hg
theorem Ev.neg {α : Type} {c : Prop} [Decidable c] {g f : Nat → Option α} {r : α} (h : ¬ c) (hf : Ev f r) : Ev (fun k => if c then g k else f k) r := by
 simp only [if_neg h]; exact hf
theorem Ev.out {α : Type} {g : Nat → Option α} {r : α} (h : Ev g r) : ∃ k, g k = some r := h.rounds
theorem Ev.same {α : Type} {g f : Nat → Option α} {r : α} (h : ∀ k, g k = f k) (hf : Ev f r) : Ev g r := Ev.congr h hf

end Go.Proofs.Ytlohmpgbjgidpac.Q
namespace Go.Proofs.Ytlohmpgbjgidpac.Q
open Go.RowKit Go.Proofs.Ytlohmpgbjgidpac.P Go.Proofs.YtlohmpgbjgidpacW.PrintWords Go.Proofs.YtlohmpgbjgidpacW.PrintLast
/- Permutations: the two PermOk functions tell whether a list of at most 24 numbers is a permutation. -/
def permFrom (n : Nat) : List Int → List Int → Bool
 | [], _ => true
 | x :: r, pre => (decide (0 ≤ x) && decide (x < (n : Int))) && (!(pre.contains x) && permFrom n r (pre ++ [x]))
def permB (l : List Int) : Bool := decide (l.length ≤ 24) && permFrom l.length l []
/-- A permutation of the numbers from 0 up to its length. -/
structure IsPerm (l : List Int) : Prop where
 lo : ∀ x ∈ l, 0 ≤ x
 hi : ∀ x ∈ l, x < (l.length : Int)
 nodup : l.Nodup
theorem permFrom_iff (n : Nat) : ∀ (r pre : List Int), permFrom n r pre = true ↔ (∀ x ∈ r, 0 ≤ x ∧ x < (n : Int)) ∧ (∀ x ∈ r, x ∉ pre) ∧ r.Nodup
 | [], pre => by simp [permFrom]
 | x :: r, pre => by
  rw [permFrom, Bool.and_eq_true, Bool.and_eq_true, Bool.and_eq_true, permFrom_iff n r (pre ++ [x])]
  simp only [decide_eq_true_eq, Bool.not_eq_true', List.mem_cons, forall_eq_or_imp, List.nodup_cons, List.mem_append, List.mem_singleton, not_or, List.contains_eq_mem, decide_eq_false_iff_not]
  constructor
  ·rintro ⟨⟨h1, h2⟩, h3, h4, h5, h6⟩
   exact ⟨⟨⟨h1, h2⟩, h4⟩, ⟨h3, fun y hy => (h5 y hy).1⟩, fun hx => (h5 x hx).2.1 rfl, h6⟩
  ·rintro ⟨⟨⟨h1, h2⟩, h4⟩, ⟨h3, h5⟩, h6, h7⟩
   exact ⟨⟨h1, h2⟩, h3, h4, fun y hy => ⟨h5 y hy, fun e => h6 (e ▸ hy), fun h => by cases h⟩, h7⟩
theorem permB_iff (l : List Int) : permB l = true ↔ l.length ≤ 24 ∧ IsPerm l := by
 rw [permB, Bool.and_eq_true, decide_eq_true_eq, permFrom_iff]
 exact ⟨fun ⟨a, b, _, d⟩ => ⟨a, fun x hx => (b x hx).1, fun x hx => (b x hx).2, d⟩, fun ⟨a, b⟩ => ⟨a, fun x hx => ⟨b.lo x hx, b.hi x hx⟩, (fun _ _ h => by cases h), b.nodup⟩⟩
theorem permOkL_from (n : Nat) (hn : n ≤ 24) : ∀ (r pre : List Int) (seen : List Bool), seen.length = 24 → (∀ x : Int, 0 ≤ x → x < 24 → rdOf false seen x = pre.contains x) → permOkL r n seen = permFrom n r pre
 | [], pre, seen, hl, hs => rfl
 | x :: r, pre, seen, hl, hs => by
  rw [permOkL, permFrom]
  by_cases h1 : x < 0
  ·rw [if_pos h1, decide_eq_false (show ¬ 0 ≤ x by omega), Bool.false_and, Bool.false_and]
  rw [if_neg h1, decide_eq_true (show 0 ≤ x by omega), Bool.true_and]
  by_cases h2 : (n : Int) ≤ x
  ·rw [if_pos h2, decide_eq_false (show ¬ x < (n : Int) by omega), Bool.false_and]
  rw [if_neg h2, decide_eq_true (show x < (n : Int) by omega), Bool.true_and, hs x (by omega) (by omega)]
  by_cases h3 : pre.contains x = true
  ·rw [if_pos h3, h3, Bool.not_true, Bool.false_and]
  rw [if_neg h3, show pre.contains x = false by simpa using h3, Bool.not_false, Bool.true_and]
  refine permOkL_from n hn r _ _ (by rw [List.length_set, hl]) fun y hy0 hy1 => ?_
  have := hs y hy0 hy1
  simp only [rdOf] at this ⊢
  by_cases e : y = x
  ·subst e
   have hlt : y.toNat < seen.length := by omega
   simp [List.getD, hlt]
  ·have hne : x.toNat ≠ y.toNat := by omega
   have h4 : (pre ++ [x]).contains y = pre.contains y := by
    simp [e]
   rw [h4, ← this]
   simp [List.getD, List.getElem?_set_ne hne]
theorem rd_false (n : Nat) (x : Int) : rdOf false (List.replicate n false) x = false := by
 simp only [rdOf, List.getD, List.getElem?_replicate]
 split <;> rfl
theorem impl_PermOk_some (l : List Int) : impl_PermOk.f l = some (permB l) := by
 rw [impl_PermOk.f, permB]
 by_cases h : (l.length : Int) > 24
 ·rw [if_pos h, decide_eq_false (show ¬ l.length ≤ 24 by omega), Bool.false_and]
 ·rw [if_neg h, decide_eq_true (show l.length ≤ 24 by omega), Bool.true_and, permOkL_from l.length (by omega) l [] _ (by simp)]
  intro x h0 h1
  rw [rd_false]
  rfl

end Go.Proofs.Ytlohmpgbjgidpac.Q
namespace Go.Proofs.Ytlohmpgbjgidpac.Q
open Go.RowKit Go.Proofs.Ytlohmpgbjgidpac.P Go.Proofs.YtlohmpgbjgidpacW.PrintWords Go.Proofs.YtlohmpgbjgidpacW.PrintLast
/- Permutations: every number below the length is met; inverse, product, renaming as lists. -/
theorem pig : ∀ (n : Nat) (l : List Int), l.Nodup → (∀ x ∈ l, 0 ≤ x ∧ x < (n : Int)) → l.length ≤ n
 | 0, l, _, h => by
  cases l with
  | nil => simp
  | cons x r => have := h x (by simp); omega
 | n + 1, l, hd, h => by
  by_cases hm : (n : Int) ∈ l
  ·have := pig n (l.erase (n : Int)) (hd.erase _) (fun x hx => by
    have h1 := (hd.mem_erase_iff).1 hx
    have h2 := h x h1.2
    have h3 := h1.1
    omega)
   rw [List.length_erase_of_mem hm] at this
   omega
  ·have := pig n l hd (fun x hx => by
    have h2 := h x hx
    have : x ≠ (n : Int) := fun e => hm (e ▸ hx)
    omega)
   omega
theorem IsPerm.mem {p : List Int} (h : IsPerm p) {j : Int} (h0 : 0 ≤ j) (h1 : j < (p.length : Int)) : j ∈ p := by
 apply Classical.byContradiction
 intro hn
 have := pig p.length (j :: p) (List.nodup_cons.2 ⟨hn, h.nodup⟩) (fun x hx => by
  rcases List.mem_cons.1 hx with e | e
  ·subst e; exact ⟨h0, h1⟩
  ·exact ⟨h.lo x e, h.hi x e⟩)
 simp only [List.length_cons] at this
 omega
theorem IsPerm.get_lo {p : List Int} (h : IsPerm p) {i : Nat} (hi : i < p.length) : 0 ≤ p[i] := h.lo _ (List.getElem_mem hi)
theorem IsPerm.get_hi {p : List Int} (h : IsPerm p) {i : Nat} (hi : i < p.length) : p[i] < (p.length : Int) := h.hi _ (List.getElem_mem hi)
theorem IsPerm.inj {p : List Int} (h : IsPerm p) {i j : Nat} (hi : i < p.length) (hj : j < p.length) (e : p[i] = p[j]) : i = j := by
 have H := List.pairwise_iff_getElem.1 h.nodup
 rcases Nat.lt_trichotomy i j with hlt | he | hgt
 ·exact absurd e (H i j hi hj hlt)
 ·exact he
 ·exact absurd e.symm (H j i hj hi hgt)
/-- The place of a number in a list. -/
def posOf (p : List Int) (j : Int) : Nat := p.idxOf j
theorem posOf_lt {p : List Int} {j : Int} (h : j ∈ p) : posOf p j < p.length := List.idxOf_lt_length_iff.2 h
theorem posOf_get {p : List Int} {j : Int} (h : j ∈ p) : p[posOf p j]'(posOf_lt h) = j := by
 unfold posOf; exact List.getElem_idxOf (posOf_lt h)
theorem IsPerm.posOf_at {p : List Int} (h : IsPerm p) {i : Nat} (hi : i < p.length) : posOf p p[i] = i :=
 h.inj (posOf_lt (List.getElem_mem hi)) hi (posOf_get (List.getElem_mem hi))
/-- The inverse. -/
def invL (p : List Int) : List Int := (List.range p.length).map fun (j : Nat) => (posOf p (j : Int) : Int)
/-- The product: first p, then q. -/
def thenL (p q : List Int) : List Int := p.map (rd q ·)
/-- The renamed permutation. -/
def renL (p q : List Int) : List Int := thenL (invL q) (thenL p q)
theorem invL_length (p : List Int) : (invL p).length = p.length := by simp [invL]
theorem thenL_length (p q : List Int) : (thenL p q).length = p.length := by simp [thenL]
theorem renL_length (p q : List Int) : (renL p q).length = q.length := by simp [renL, thenL, invL]
theorem invL_get (p : List Int) {j : Nat} (h : j < p.length) : (invL p)[j]'(by rw [invL_length]; exact h) = (posOf p (j : Int) : Int) := by simp [invL]
theorem thenL_get (p q : List Int) {j : Nat} (h : j < p.length) : (thenL p q)[j]'(by rw [thenL_length]; exact h) = rd q p[j] := by simp [thenL]
theorem rd_of {q : List Int} {x : Int} (h0 : 0 ≤ x) (h1 : x < (q.length : Int)) : rd q x = q[x.toNat]'(by omega) := by
 obtain ⟨n, rfl⟩ := Int.eq_ofNat_of_zero_le h0
 rw [rdg (by omega)]
 simp
theorem nodup_of_inj {l : List Int} (h : ∀ (i j : Nat) (hi : i < l.length) (hj : j < l.length), l[i] = l[j] → i = j) : l.Nodup := by
 refine List.pairwise_iff_getElem.2 fun i j hi hj hlt e => ?_
 have := h i j hi hj e
 omega
theorem IsPerm.mk' {l : List Int} (hb : ∀ (i : Nat) (hi : i < l.length), 0 ≤ l[i] ∧ l[i] < (l.length : Int)) (h : ∀ (i j : Nat) (hi : i < l.length) (hj : j < l.length), l[i] = l[j] → i = j) : IsPerm l where
 lo := fun x hx => by obtain ⟨i, hi, rfl⟩ := List.getElem_of_mem hx; exact (hb i hi).1
 hi := fun x hx => by obtain ⟨i, hi, rfl⟩ := List.getElem_of_mem hx; exact (hb i hi).2
 nodup := nodup_of_inj h
theorem IsPerm.inv {p : List Int} (h : IsPerm p) : IsPerm (invL p) := by
 refine IsPerm.mk' (fun i hi => ?_) (fun i j hi hj e => ?_)
 ·rw [invL_length] at hi
  rw [invL_get p hi, invL_length]
  have := posOf_lt (h.mem (j := (i : Int)) (by omega) (by omega))
  omega
 ·rw [invL_length] at hi hj
  rw [invL_get p hi, invL_get p hj] at e
  have a := h.mem (j := (i : Int)) (by omega) (by omega)
  have b := h.mem (j := (j : Int)) (by omega) (by omega)
  have e' : posOf p (i : Int) = posOf p (j : Int) := by omega
  have := posOf_get a
  have := posOf_get b
  simp only [e'] at *
  omega
theorem IsPerm.then {p q : List Int} (h : IsPerm p) (hq : IsPerm q) (hl : p.length = q.length) : IsPerm (thenL p q) := by
 refine IsPerm.mk' (fun i hi => ?_) (fun i j hi hj e => ?_)
 ·rw [thenL_length] at hi
  rw [thenL_get p q hi, thenL_length]
  have a := h.get_lo hi
  have b := h.get_hi hi
  rw [rd_of a (by omega)]
  have := hq.get_lo (i := p[i].toNat) (by omega)
  have := hq.get_hi (i := p[i].toNat) (by omega)
  omega
 ·rw [thenL_length] at hi hj
  rw [thenL_get p q hi, thenL_get p q hj] at e
  have a := h.get_lo hi
  have b := h.get_hi hi
  have c := h.get_lo hj
  have d := h.get_hi hj
  rw [rd_of a (by omega), rd_of c (by omega)] at e
  have := hq.inj (by omega) (by omega) e
  exact h.inj hi hj (by omega)
theorem IsPerm.ren {p q : List Int} (h : IsPerm p) (hq : IsPerm q) (hl : p.length = q.length) : IsPerm (renL p q) :=
 hq.inv.then (h.then hq hl) (by rw [invL_length, thenL_length, hl])

end Go.Proofs.Ytlohmpgbjgidpac.Q
namespace Go.Proofs.Ytlohmpgbjgidpac.Q
open Go.RowKit Go.Proofs.Ytlohmpgbjgidpac.P Go.Proofs.YtlohmpgbjgidpacW.PrintWords Go.Proofs.YtlohmpgbjgidpacW.PrintLast
/- What is met from a square by two permutations: the reference's list, and the program's. -/
/-- A list of different numbers below n. -/
structure Few (n : Nat) (out : List Int) : Prop where
 lo : ∀ x ∈ out, 0 ≤ x
 hi : ∀ x ∈ out, x < (n : Int)
 nodup : out.Nodup
theorem rd_perm {p : List Int} (hp : IsPerm p) {x : Int} (h0 : 0 ≤ x) (h1 : x < (p.length : Int)) : 0 ≤ rd p x ∧ rd p x < (p.length : Int) := by
 rw [rd_of h0 h1]
 exact ⟨hp.get_lo _, hp.get_hi _⟩

end Go.Proofs.Ytlohmpgbjgidpac.Q
namespace Go.Proofs.Ytlohmpgbjgidpac.Q
open Go.RowKit Go.Proofs.Ytlohmpgbjgidpac.P Go.Proofs.YtlohmpgbjgidpacW.PrintWords Go.Proofs.YtlohmpgbjgidpacW.PrintLast
/- From every square of a valid surface all squares are met. -/
theorem sub_len : ∀ (l m : List Int), l.Nodup → (∀ x ∈ l, x ∈ m) → l.length ≤ m.length
 | [], m, _, _ => by simp
 | x :: r, m, hd, hs => by
  have hx := hs x (by simp)
  have := sub_len r (m.erase x) (List.nodup_cons.1 hd).2 (fun y hy => by
   have hne : y ≠ x := fun e => (List.nodup_cons.1 hd).1 (e ▸ hy)
   exact (List.mem_erase_of_ne hne).2 (hs y (by simp [hy])))
  rw [List.length_erase_of_mem hx] at this
  have : 0 < m.length := List.length_pos_of_mem hx
  simp only [List.length_cons]
  omega
theorem nodup_map {l : List Int} {f : Int → Int} (h : l.Nodup) (hf : ∀ x ∈ l, ∀ y ∈ l, f x = f y → x = y) : (l.map f).Nodup := by
 apply nodup_of_inj
 intro i j hi hj e
 rw [List.length_map] at hi hj
 rw [List.getElem_map, List.getElem_map] at e
 have e2 := hf _ (List.getElem_mem hi) _ (List.getElem_mem hj) e
 have H := List.pairwise_iff_getElem.1 h
 rcases Nat.lt_trichotomy i j with hlt | he | hgt
 ·exact absurd e2 (H i j hi hj hlt)
 ·exact he
 ·exact absurd e2.symm (H j i hj hi hgt)
/-- A map that is one to one on a list and stays in it meets all of it. -/
theorem onto {l : List Int} {f : Int → Int} (h : l.Nodup) (hf : ∀ x ∈ l, ∀ y ∈ l, f x = f y → x = y) (hm : ∀ x ∈ l, f x ∈ l) {y : Int} (hy : y ∈ l) : ∃ x ∈ l, f x = y := by
 apply Classical.byContradiction
 intro hn
 have hd : (y :: l.map f).Nodup := List.nodup_cons.2 ⟨fun hc => by obtain ⟨x, hx, e⟩ := List.mem_map.1 hc; exact hn ⟨x, hx, e⟩, nodup_map h hf⟩
 have := sub_len (y :: l.map f) l hd (fun z hz => by
  rcases List.mem_cons.1 hz with rfl | hz
  ·exact hy
  ·obtain ⟨x, hx, rfl⟩ := List.mem_map.1 hz; exact hm x hx)
 simp only [List.length_cons, List.length_map] at this
 omega
theorem rd_inj {p : List Int} (hp : IsPerm p) {x y : Int} (x0 : 0 ≤ x) (x1 : x < (p.length : Int)) (y0 : 0 ≤ y) (y1 : y < (p.length : Int)) (e : rd p x = rd p y) : x = y := by
 rw [rd_of x0 x1, rd_of y0 y1] at e
 have := hp.inj (by omega) (by omega) e
 omega

end Go.Proofs.Ytlohmpgbjgidpac.Q
namespace Go.Proofs.Ytlohmpgbjgidpac.Q
open Go.RowKit Go.Proofs.Ytlohmpgbjgidpac.P Go.Proofs.YtlohmpgbjgidpacW.PrintWords Go.Proofs.YtlohmpgbjgidpacW.PrintLast
/- A permutation, applied many times. -/
def powP (p : List Int) : Nat → Int → Int
 | 0, x => x
 | n + 1, x => rd p (powP p n x)
theorem powP_in {p : List Int} (hp : IsPerm p) {x : Int} (h0 : 0 ≤ x) (h1 : x < (p.length : Int)) : ∀ n, 0 ≤ powP p n x ∧ powP p n x < (p.length : Int)
 | 0 => ⟨h0, h1⟩
 | n + 1 => rd_perm hp (powP_in hp h0 h1 n).1 (powP_in hp h0 h1 n).2
theorem powP_add (p : List Int) (x : Int) (m : Nat) : ∀ n, powP p (m + n) x = powP p n (powP p m x)
 | 0 => rfl
 | n + 1 => by rw [← Nat.add_assoc, powP, powP, powP_add p x m n]
theorem powP_inj {p : List Int} (hp : IsPerm p) {x y : Int} (x0 : 0 ≤ x) (x1 : x < (p.length : Int)) (y0 : 0 ≤ y) (y1 : y < (p.length : Int)) : ∀ n, powP p n x = powP p n y → x = y
 | 0, e => e
 | n + 1, e => by
  have a := powP_in hp x0 x1 n
  have b := powP_in hp y0 y1 n
  exact powP_inj hp x0 x1 y0 y1 n (rd_inj hp a.1 a.2 b.1 b.2 e)

end Go.Proofs.Ytlohmpgbjgidpac.Q
namespace Go.Proofs.Ytlohmpgbjgidpac.Q
open Go.RowKit Go.Proofs.Ytlohmpgbjgidpac.P Go.Proofs.YtlohmpgbjgidpacW.PrintWords Go.Proofs.YtlohmpgbjgidpacW.PrintLast
/- The cycles of a permutation: what both functions walk through. -/
def cycF (p : List Int) : Nat → List Bool → Int → List Int → List Bool × List Int
 | 0, seen, _, cyc => (seen, cyc)
 | d + 1, seen, x, cyc => if rdOf false seen x = true then (seen, cyc) else cycF p d (seen.set x.toNat true) (rd p x) (cyc ++ [x])
def cycO (p : List Int) : Nat → Nat → List Bool → List (List Int) → List (List Int)
 | 0, _, _, out => out
 | d + 1, i, seen, out => if rdOf false seen (i : Int) = true then cycO p d (i + 1) seen out else cycO p d (i + 1) (cycF p (p.length + 1) seen (i : Int) []).1 (out ++ [(cycF p (p.length + 1) seen (i : Int) []).2])
def cycL (p : List Int) : List (List Int) := cycO p p.length 0 (List.replicate p.length false) []
def cycB (p : List Int) : List (List Int) := if permB p = true then cycL p else []
theorem count_seen {seen : List Bool} {x : Int} (h0 : 0 ≤ x) (h1 : x < (seen.length : Int)) (h : ¬ rdOf false seen x = true) : (seen.set x.toNat true).count false + 1 = seen.count false := by
 obtain ⟨j, rfl⟩ := Int.eq_ofNat_of_zero_le h0
 have hj : j < seen.length := by omega
 have hf : seen[j] = false := by simpa [rdOf, hj] using h
 have hm : false ∈ seen := hf ▸ List.getElem_mem hj
 have hp : 0 < seen.count false := List.count_pos_iff.2 hm
 rw [Int.toNat_natCast, List.count_set hj, hf]
 simp
 omega
theorem cycF_seen (p : List Int) : ∀ (d : Nat) (seen : List Bool) (x : Int) (cyc : List Int), (cycF p d seen x cyc).1.length = seen.length ∧ cyc.length ≤ (cycF p d seen x cyc).2.length
 | 0, _, _, _ => ⟨rfl, Nat.le_refl _⟩
 | d + 1, seen, x, cyc => by
  rw [cycF]
  split
  ·exact ⟨rfl, Nat.le_refl _⟩
  ·have := cycF_seen p d (seen.set x.toNat true) (rd p x) (cyc ++ [x])
   rw [List.length_set, List.length_append] at this
   exact ⟨this.1, by omega⟩
theorem cycF_pos (p : List Int) (d : Nat) (seen : List Bool) (x : Int) (h : ¬ rdOf false seen x = true) : 0 < (cycF p (d + 1) seen x []).2.length := by
 rw [cycF, if_neg h]
 have := (cycF_seen p d (seen.set x.toNat true) (rd p x) ([] ++ [x])).2
 simp only [List.nil_append, List.length_cons, List.length_nil] at this ⊢
 omega

end Go.Proofs.Ytlohmpgbjgidpac.Q
namespace Go.Proofs.Ytlohmpgbjgidpac.Q
open Go.RowKit Go.Proofs.Ytlohmpgbjgidpac.P Go.Proofs.YtlohmpgbjgidpacW.PrintWords Go.Proofs.YtlohmpgbjgidpacW.PrintLast
/- What the cycles of a permutation are: every number lies in one cycle alone; how many cycles there are of each length. -/
/-- A cycle: a number, what follows it, and so on till it comes back. -/
structure IsCyc (p c : List Int) : Prop where
 nodup : c.Nodup
 inn : ∀ x ∈ c, 0 ≤ x ∧ x < (p.length : Int)
 pos : 0 < c.length
 ex : ∃ a : Int, c = (List.range c.length).map (fun j => powP p j a) ∧ powP p c.length a = a
theorem range_nodup {m : Nat} {f : Nat → Int} (h : ((List.range m).map f).Nodup) {i j : Nat} (hi : i < m) (hj : j < m) (e : f i = f j) : i = j := by
 have H := List.pairwise_iff_getElem.1 h
 rcases Nat.lt_trichotomy i j with l | l | l
 ·exact absurd (by rw [List.getElem_map, List.getElem_map, List.getElem_range, List.getElem_range]; exact e) (H i j (by simpa using hi) (by simpa using hj) l)
 ·exact l
 ·exact absurd (by rw [List.getElem_map, List.getElem_map, List.getElem_range, List.getElem_range]; exact e.symm) (H j i (by simpa using hj) (by simpa using hi) l)
theorem rdOf_set {seen : List Bool} {x y : Int} (h0 : 0 ≤ x) (h1 : x < (seen.length : Int)) (y0 : 0 ≤ y) : rdOf false (seen.set x.toNat true) y = true ↔ y = x ∨ rdOf false seen y = true := by
 obtain ⟨i, rfl⟩ := Int.eq_ofNat_of_zero_le h0
 obtain ⟨j, rfl⟩ := Int.eq_ofNat_of_zero_le y0
 have hi : i < seen.length := by omega
 by_cases e : j = i
 ·subst e
  simp [rdOf, List.getD_eq_getElem?_getD, hi]
 ·have e' : ¬ (j : Int) = (i : Int) := by omega
  simp [rdOf, List.getD_eq_getElem?_getD, List.getElem?_set, e', Ne.symm e]
theorem cycF_spec {p : List Int} (hp : IsPerm p) (T : Int → Prop) {a : Int} (a0 : 0 ≤ a) (a1 : a < (p.length : Int)) (hT : ∀ m, ¬ T (powP p m a)) :
  ∀ (d : Nat) (seen : List Bool) (m : Nat) (cyc : List Int), seen.length = p.length → cyc = (List.range m).map (fun j => powP p j a) → cyc.Nodup →
  (∀ y : Int, 0 ≤ y → y < (p.length : Int) → (rdOf false seen y = true ↔ T y ∨ y ∈ cyc)) → seen.count false < d →
  IsCyc p (cycF p d seen (powP p m a) cyc).2 ∧ (∃ m', (cycF p d seen (powP p m a) cyc).2 = (List.range m').map (fun j => powP p j a)) ∧ (cycF p d seen (powP p m a) cyc).1.length = p.length ∧
  (∀ y : Int, 0 ≤ y → y < (p.length : Int) → (rdOf false (cycF p d seen (powP p m a) cyc).1 y = true ↔ T y ∨ y ∈ (cycF p d seen (powP p m a) cyc).2)) := by
 intro d
 induction d with
 | zero => intro seen m cyc _ _ _ _ h; omega
 | succ d ih =>
  intro seen m cyc hl hc hd hs hf
  have bd := powP_in hp a0 a1 m
  rw [cycF]
  by_cases c : rdOf false seen (powP p m a) = true
  ·rw [if_pos c]
   have hx := ((hs _ bd.1 bd.2).1 c).resolve_left (hT m)
   have hlen : cyc.length = m := by rw [hc]; simp
   obtain ⟨j, hj, e⟩ : ∃ j, j < m ∧ powP p j a = powP p m a := by
    rw [hc] at hx
    obtain ⟨j, hj, e⟩ := List.mem_map.1 hx
    exact ⟨j, List.mem_range.1 hj, e⟩
   have back : powP p (m - j) a = a := by
    have b := powP_in hp a0 a1 (m - j)
    refine powP_inj hp b.1 b.2 a0 a1 j ?_
    rw [← powP_add, show m - j + j = m by omega, e]
   have j0 : j = 0 := by
    apply Classical.byContradiction
    intro hj0
    have z := range_nodup (hc ▸ hd) (i := m - j) (j := 0) (by omega) (by omega) back
    omega
   subst j0
   refine ⟨⟨hd, fun x hx => ?_, by show 0 < cyc.length; omega, a, by show cyc = _; rw [hlen]; exact hc, by show powP p cyc.length a = a; rw [hlen]; simpa using back⟩, ⟨m, hc⟩, hl, hs⟩
   rw [hc] at hx
   obtain ⟨j, hj, rfl⟩ := List.mem_map.1 hx
   exact powP_in hp a0 a1 j
  ·rw [if_neg c]
   have hn : powP p m a ∉ cyc := fun h => c ((hs _ bd.1 bd.2).2 (.inr h))
   have cs := count_seen bd.1 (by rw [hl]; exact bd.2) c
   refine ih (seen.set (powP p m a).toNat true) (m + 1) (cyc ++ [powP p m a]) (by rw [List.length_set, hl]) ?_ ?_ ?_ (by omega)
   ·rw [List.range_succ, List.map_append, ← hc]
    rfl
   ·exact List.nodup_append.2 ⟨hd, by simp, fun x hx y hy e => by rw [List.mem_singleton] at hy; exact hn (hy ▸ e ▸ hx)⟩
   ·intro y y0 y1
    rw [rdOf_set bd.1 (by rw [hl]; exact bd.2) y0, hs y y0 y1, List.mem_append, List.mem_singleton]
    constructor
    ·rintro (h | h | h)
     ·exact .inr (.inr h)
     ·exact .inl h
     ·exact .inr (.inl h)
    ·rintro (h | h | h)
     ·exact .inr (.inl h)
     ·exact .inr (.inr h)
     ·exact .inl h
theorem IsCyc.back {p c : List Int} (hp : IsPerm p) (h : IsCyc p c) {y : Int} (y0 : 0 ≤ y) (y1 : y < (p.length : Int)) (hy : rd p y ∈ c) : y ∈ c := by
 obtain ⟨a, e, ha⟩ := h.ex
 have hm := hy
 rw [e] at hm
 obtain ⟨j, hj, ej⟩ := List.mem_map.1 hm
 have hj := List.mem_range.1 hj
 have mem : ∀ k, k < c.length → powP p k a ∈ c := fun k hk => by rw [e]; exact List.mem_map.2 ⟨k, List.mem_range.2 (by simpa using hk), rfl⟩
 have pos := h.pos
 have za := h.inn a (mem 0 pos)
 cases j with
 | zero =>
  have : powP p (c.length - 1) a = y := by
   have b := powP_in hp za.1 za.2 (c.length - 1)
   refine rd_inj hp b.1 b.2 y0 y1 ?_
   have z : powP p (c.length - 1 + 1) a = rd p y := by
    rw [show c.length - 1 + 1 = c.length by omega, ha]; exact ej
   exact z
  rw [← this]
  exact mem _ (by omega)
 | succ k =>
  have : powP p k a = y := by
   have b := powP_in hp za.1 za.2 k
   exact rd_inj hp b.1 b.2 y0 y1 ej
  rw [← this]
  exact mem _ (by omega)
theorem not_back {p : List Int} (hp : IsPerm p) {T : Int → Prop} (hb : ∀ y, 0 ≤ y → y < (p.length : Int) → T (rd p y) → T y) {a : Int} (a0 : 0 ≤ a) (a1 : a < (p.length : Int)) (ha : ¬ T a) : ∀ m, ¬ T (powP p m a)
 | 0 => ha
 | m + 1 => fun h => not_back hp hb a0 a1 ha m (hb _ (powP_in hp a0 a1 m).1 (powP_in hp a0 a1 m).2 h)
theorem cycO_spec {p : List Int} (hp : IsPerm p) : ∀ (d i : Nat) (seen : List Bool) (out : List (List Int)), i + d = p.length → seen.length = p.length → (∀ c ∈ out, IsCyc p c) → out.flatten.Nodup →
  (∀ y : Int, 0 ≤ y → y < (p.length : Int) → (rdOf false seen y = true ↔ y ∈ out.flatten)) → (∀ j : Nat, j < i → (j : Int) ∈ out.flatten) →
  (∀ c ∈ cycO p d i seen out, IsCyc p c) ∧ (cycO p d i seen out).flatten.Nodup ∧ ∀ j : Nat, j < p.length → (j : Int) ∈ (cycO p d i seen out).flatten := by
 intro d
 induction d with
 | zero => intro i seen out h _ hc hn _ hi; exact ⟨hc, hn, fun j hj => hi j (by omega)⟩
 | succ d ih =>
  intro i seen out h hl hc hn hs hi
  rw [cycO]
  by_cases c : rdOf false seen (i : Int) = true
  ·rw [if_pos c]
   refine ih (i + 1) seen out (by omega) hl hc hn hs fun j hj => ?_
   by_cases e : j = i
   ·subst e
    exact (hs _ (by omega) (by omega)).1 c
   ·exact hi j (by omega)
  ·rw [if_neg c]
   have hb : ∀ y : Int, 0 ≤ y → y < (p.length : Int) → rd p y ∈ out.flatten → y ∈ out.flatten := fun y y0 y1 hy => by
    obtain ⟨z, hz, hy⟩ := List.mem_flatten.1 hy
    exact List.mem_flatten.2 ⟨z, hz, (hc z hz).back hp y0 y1 hy⟩
   have hna : ¬ (i : Int) ∈ out.flatten := fun h => c ((hs _ (by omega) (by omega)).2 h)
   have hT := not_back hp hb (a := (i : Int)) (by omega) (by omega) hna
   have cnt : seen.count false ≤ p.length := by rw [← hl]; exact List.count_le_length
   obtain ⟨k1, ⟨m', k2⟩, k3, k4⟩ := cycF_spec hp (· ∈ out.flatten) (a := (i : Int)) (by omega) (by omega) hT (p.length + 1) seen 0 [] hl rfl (by simp) (fun y y0 y1 => by rw [hs y y0 y1]; simp) (by omega)
   have k1 : IsCyc p (cycF p (p.length + 1) seen (i : Int) []).2 := k1
   have k2 : (cycF p (p.length + 1) seen (i : Int) []).2 = (List.range m').map (fun j => powP p j (i : Int)) := k2
   have k3 : (cycF p (p.length + 1) seen (i : Int) []).1.length = p.length := k3
   have k4 : ∀ y : Int, 0 ≤ y → y < (p.length : Int) → (rdOf false (cycF p (p.length + 1) seen (i : Int) []).1 y = true ↔ y ∈ out.flatten ∨ y ∈ (cycF p (p.length + 1) seen (i : Int) []).2) := k4
   generalize cycF p (p.length + 1) seen (i : Int) [] = F at *
   have fl : (out ++ [F.2]).flatten = out.flatten ++ F.2 := by simp
   have ii : (i : Int) ∈ F.2 := by
    rw [k2]
    have : 0 < m' := by have := k1.pos; rw [k2] at this; simpa using this
    exact List.mem_map.2 ⟨0, List.mem_range.2 this, rfl⟩
   refine ih (i + 1) F.1 (out ++ [F.2]) (by omega) k3 ?_ ?_ ?_ ?_
   ·intro z hz
    rcases List.mem_append.1 hz with hz | hz
    ·exact hc z hz
    ·rw [List.mem_singleton.1 hz]; exact k1
   ·rw [fl]
    refine List.nodup_append.2 ⟨hn, k1.nodup, fun x hx y hy e => ?_⟩
    subst e
    rw [k2] at hy
    obtain ⟨j, _, rfl⟩ := List.mem_map.1 hy
    exact hT j hx
   ·intro y y0 y1
    rw [fl, List.mem_append]
    exact k4 y y0 y1
   ·intro j hj
    rw [fl, List.mem_append]
    by_cases e : j = i
    ·subst e; exact .inr ii
    ·exact .inl (hi j (by omega))
theorem cycL_spec {p : List Int} (hp : IsPerm p) : (∀ c ∈ cycL p, IsCyc p c) ∧ (cycL p).flatten.Nodup ∧ ∀ j : Nat, j < p.length → (j : Int) ∈ (cycL p).flatten := by
 refine cycO_spec hp p.length 0 _ [] (by omega) (by simp) (by simp) (by simp) (fun y y0 y1 => ?_) (fun j hj => by omega)
 obtain ⟨j, rfl⟩ := Int.eq_ofNat_of_zero_le y0
 have : j < p.length := by omega
 simp [rdOf, List.getD_eq_getElem?_getD, this]
def ints (n : Nat) : List Int := (List.range n).map fun (j : Nat) => (j : Int)
theorem mem_ints {n : Nat} {x : Int} : x ∈ ints n ↔ 0 ≤ x ∧ x < (n : Int) := by
 constructor
 ·intro h
  obtain ⟨j, hj, rfl⟩ := List.mem_map.1 h
  have := List.mem_range.1 hj
  exact ⟨by omega, by omega⟩
 ·rintro ⟨h0, h1⟩
  exact List.mem_map.2 ⟨x.toNat, List.mem_range.2 (by omega), by omega⟩
theorem ints_nodup (n : Nat) : (ints n).Nodup := by
 apply nodup_of_inj
 intro i j hi hj e
 simp only [ints, List.getElem_map, List.getElem_range] at e
 omega
theorem perm_of_mem {l m : List Int} (hl : l.Nodup) (hm : m.Nodup) (h : ∀ x, x ∈ l ↔ x ∈ m) : l.Perm m := by
 rw [List.perm_iff_count]
 intro x
 rw [hl.count, hm.count]
 by_cases c : x ∈ l
 ·rw [if_pos c, if_pos ((h x).1 c)]
 ·rw [if_neg c, if_neg (fun z => c ((h x).2 z))]
theorem flat_ints {p : List Int} (hp : IsPerm p) : (cycL p).flatten.Perm (ints p.length) := by
 obtain ⟨h1, h2, h3⟩ := cycL_spec hp
 refine perm_of_mem h2 (ints_nodup _) fun x => ⟨fun hx => ?_, fun hx => ?_⟩
 ·obtain ⟨c, hc, hx⟩ := List.mem_flatten.1 hx
  exact mem_ints.2 ((h1 c hc).inn x hx)
 ·obtain ⟨h0, h1⟩ := mem_ints.1 hx
  have := h3 x.toNat (by omega)
  rwa [Int.toNat_of_nonneg h0] at this
/-- The lengths of the cycles. -/
def cycLen (p : List Int) : List Nat := (cycL p).map List.length
theorem cycLen_sum {p : List Int} (hp : IsPerm p) : (cycLen p).sum = p.length := by
 have := (flat_ints hp).length_eq
 rw [List.length_flatten] at this
 simpa [ints, cycLen] using this
/-- Does a number come back behind so many steps, and not before? -/
def isPer (p : List Int) (L : Nat) (x : Int) : Bool := decide (0 < L ∧ powP p L x = x ∧ ∀ k, k < L → 0 < k → powP p k x ≠ x)
theorem powP_comm (p : List Int) (x : Int) (m n : Nat) : powP p m (powP p n x) = powP p n (powP p m x) := by
 rw [← powP_add, ← powP_add, Nat.add_comm]
theorem IsCyc.per {p c : List Int} (hp : IsPerm p) (h : IsCyc p c) {x : Int} (hx : x ∈ c) (L : Nat) : isPer p L x = (c.length == L) := by
 obtain ⟨a, e, ha⟩ := h.ex
 have pos := h.pos
 have mem : ∀ k, k < c.length → powP p k a ∈ c := fun k hk => by rw [e]; exact List.mem_map.2 ⟨k, List.mem_range.2 (by simpa using hk), rfl⟩
 have za := h.inn a (mem 0 pos)
 have nd := h.nodup
 rw [e] at nd
 have hm := hx
 rw [e] at hm
 obtain ⟨j, hj, rfl⟩ := List.mem_map.1 hm
 have no : ∀ k, k < c.length → 0 < k → powP p k (powP p j a) ≠ powP p j a := fun k hk k0 z => by
  rw [powP_comm] at z
  have b := powP_in hp za.1 za.2 k
  have := powP_inj hp b.1 b.2 za.1 za.2 j z
  have := range_nodup nd hk pos this
  omega
 have yes : powP p c.length (powP p j a) = powP p j a := by rw [powP_comm, ha]
 rw [isPer, Bool.eq_iff_iff, decide_eq_true_eq, beq_iff_eq]
 constructor
 ·rintro ⟨l0, l1, l2⟩
  rcases Nat.lt_trichotomy c.length L with z | z | z
  ·exact absurd yes (l2 _ z pos)
  ·exact z
  ·exact absurd l1 (no _ z l0)
 ·rintro rfl
  exact ⟨pos, yes, no⟩
theorem cnt_flat (p : List Int) (hp : IsPerm p) (L : Nat) : ∀ (l : List (List Int)), (∀ c ∈ l, IsCyc p c) → l.flatten.countP (isPer p L) = L * (l.map List.length).count L
 | [], _ => by simp
 | c :: l, h => by
  have hc := h c (by simp)
  rw [List.flatten_cons, List.countP_append, cnt_flat p hp L l (fun c hc => h c (by simp [hc])), List.map_cons, List.count_cons]
  by_cases e : c.length = L
  ·have : c.countP (isPer p L) = c.length := List.countP_eq_length.2 fun x hx => by rw [hc.per hp hx]; simp [e]
   rw [this, e]
   simp
   rw [Nat.mul_add, Nat.mul_one, Nat.add_comm]
  ·have : c.countP (isPer p L) = 0 := List.countP_eq_zero.2 fun x hx => by rw [hc.per hp hx]; simp [e]
   rw [this]
   simp [e]
theorem cnt_len {p : List Int} (hp : IsPerm p) (L : Nat) : (ints p.length).countP (isPer p L) = L * (cycLen p).count L := by
 rw [← (flat_ints hp).countP_eq]
 exact cnt_flat p hp L _ (cycL_spec hp).1
theorem cycLen_zero {p : List Int} (hp : IsPerm p) : (cycLen p).count 0 = 0 := by
 rw [List.count_eq_zero]
 intro h
 obtain ⟨c, hc, e⟩ := List.mem_map.1 h
 have := ((cycL_spec hp).1 c hc).pos
 omega
/-- Two permutations with as many numbers of each period have the same lengths of cycles. -/
theorem cycLen_perm {p q : List Int} (hp : IsPerm p) (hq : IsPerm q) (h : ∀ L, (ints p.length).countP (isPer p L) = (ints q.length).countP (isPer q L)) : (cycLen p).Perm (cycLen q) := by
 rw [List.perm_iff_count]
 intro L
 by_cases e : L = 0
 ·subst e
  rw [cycLen_zero hp, cycLen_zero hq]
 ·have := h L
  rw [cnt_len hp, cnt_len hq] at this
  exact Nat.eq_of_mul_eq_mul_left (by omega) this

end Go.Proofs.Ytlohmpgbjgidpac.Q
namespace Go.Proofs.Ytlohmpgbjgidpac.Q
open Go.RowKit Go.Proofs.Ytlohmpgbjgidpac.P Go.Proofs.YtlohmpgbjgidpacW.PrintWords Go.Proofs.YtlohmpgbjgidpacW.PrintLast
/- The program's cycles. -/
theorem impl_cyc_inner (p : List Int) (hp : IsPerm p) (hn : p.length ≤ 24) (i : Nat) (hi : i < p.length) (out : List (List Int)) (ho : out.length ≤ 24) (r : List (List Int)) : ∀ (d : Nat) (seen : List Bool) (x : Int) (cyc : List Int), seen.length = p.length → 0 ≤ x → x < (p.length : Int) → seen.count false < d → cyc.length + d ≤ 60 →
  (0 < (cycF p d seen x cyc).2.length) → Ev (fun k => impl_CyclesOf.l0 k p (cycF p d seen x cyc).1 (out ++ [(cycF p d seen x cyc).2]) (p.length : Int) ((i + 1 : Nat) : Int)) r →
  Ev (fun k => impl_CyclesOf.l1 k p seen out cyc x (p.length : Int) i) r := by
 intro d
 induction d with
 | zero => intro seen x cyc hl h0 h1 hc; omega
 | succ d ih =>
  intro seen x cyc hl h0 h1 hc hd hpos next
  refine Ev.step (fun k => by rw [impl_CyclesOf.l1]) (Ev.pos h0 (Ev.pos (by omega) ?_))
  rw [cycF] at next hpos
  by_cases c : rdOf false seen x = true
  ·rw [if_pos c] at next hpos
   refine Ev.pos c ?_
   rw [w64n (by omega)]
   exact Ev.pos (by omega) next
  ·rw [if_neg c] at next hpos
   have b := rd_perm hp h0 h1
   have cs := count_seen h0 (by omega) c
   refine Ev.neg c (Ev.pos (by omega) (Ev.pos (by omega) ?_))
   exact ih _ _ _ (by rw [List.length_set, hl]) b.1 b.2 (by omega) (by rw [List.length_append, List.length_cons, List.length_nil]; omega) hpos next
theorem impl_cyc_outer (p : List Int) (hp : IsPerm p) (hn : p.length ≤ 24) : ∀ (d i : Nat) (seen : List Bool) (out : List (List Int)), i + d = p.length → seen.length = p.length → out.length ≤ i → Ev (fun k => impl_CyclesOf.l0 k p seen out (p.length : Int) i) (cycO p d i seen out) := by
 intro d
 induction d with
 | zero =>
  intro i seen out h hl ho
  exact Ev.step (fun k => by rw [impl_CyclesOf.l0]) (Ev.neg (by omega) (Ev.now out))
 | succ d ih =>
  intro i seen out h hl ho
  rw [cycO]
  refine Ev.step (fun k => by rw [impl_CyclesOf.l0]) (Ev.pos (by omega) ?_)
  have cnt : seen.count false ≤ p.length := by rw [← hl]; exact List.count_le_length
  have inner := fun r hh => impl_cyc_inner p hp hn i (by omega) out (by omega) r (p.length + 1) seen (i : Int) [] hl (by omega) (by omega) (by omega) (by simp; omega) hh
  by_cases c : rdOf false seen (i : Int) = true
  ·rw [if_pos c]
   have n := ih (i + 1) seen out (by omega) hl (by omega)
   refine Ev.pos (by omega) (Ev.pos (by omega) (Ev.pos c ?_))
   rw [w64n (by omega)]
   exact n
  ·rw [if_neg c]
   have n := ih (i + 1) (cycF p (p.length + 1) seen (i : Int) []).1 (out ++ [(cycF p (p.length + 1) seen (i : Int) []).2]) (by omega) (by rw [(cycF_seen _ _ _ _ _).1, hl]) (by rw [List.length_append, List.length_cons, List.length_nil]; omega)
   exact Ev.pos (by omega) (Ev.pos (by omega) (Ev.neg c (inner _ (cycF_pos p _ seen _ c) n)))
theorem impl_CyclesOf_ev (p : List Int) : Ev (fun k => impl_CyclesOf.f k p) (cycB p) := by
 refine Ev.same (fun k => by rw [impl_CyclesOf.f]) (Ev.plain (impl_PermOk_some p) ?_)
 unfold cycB
 by_cases h : permB p = true
 ·have h' := (permB_iff p).1 h
  have := h'.1
  rw [if_pos h]
  refine Ev.pos h (Ev.pos (by omega) (Ev.pos (by omega) ?_))
  exact impl_cyc_outer p h'.2 h'.1 p.length 0 _ [] (by omega) (by simp) (by simp)
 ·rw [if_neg h]
  exact Ev.neg h (Ev.now _)

end Go.Proofs.Ytlohmpgbjgidpac.Q
namespace Go.Proofs.Ytlohmpgbjgidpac.Q
open Go.RowKit Go.Proofs.Ytlohmpgbjgidpac.P Go.Proofs.YtlohmpgbjgidpacW.PrintWords Go.Proofs.YtlohmpgbjgidpacW.PrintLast
/- Each move makes a valid surface of a valid one. -/
theorem rd_then {p q : List Int} {x : Int} (h0 : 0 ≤ x) (h1 : x < (p.length : Int)) : rd (thenL p q) x = rd q (rd p x) := by
 rw [rd_of (q := thenL p q) h0 (by rw [thenL_length]; exact h1), thenL_get p q (by omega), rd_of h0 h1]
theorem rd_inv {p : List Int} {x : Int} (h0 : 0 ≤ x) (h1 : x < (p.length : Int)) : rd (invL p) x = (posOf p x : Int) := by
 rw [rd_of (q := invL p) h0 (by rw [invL_length]; exact h1), invL_get p (by omega), show ((x.toNat : Nat) : Int) = x by omega]
theorem rd_inv_of {p : List Int} (hp : IsPerm p) {x : Int} (h0 : 0 ≤ x) (h1 : x < (p.length : Int)) : rd (invL p) (rd p x) = x := by
 have b := rd_perm hp h0 h1
 rw [rd_inv b.1 b.2, rd_of h0 h1, hp.posOf_at]
 omega
theorem rd_of_inv {p : List Int} (hp : IsPerm p) {x : Int} (h0 : 0 ≤ x) (h1 : x < (p.length : Int)) : rd p (rd (invL p) x) = x := by
 have m := hp.mem h0 h1
 rw [rd_inv h0 h1, rdg (posOf_lt m), posOf_get m]
/-- What a permutation keeps, its inverse keeps. -/
theorem back {n : Nat} {C : List Int} (hf : Few n C) {p : List Int} (hp : IsPerm p) (hl : p.length = n) (h : ∀ x ∈ C, rd p x ∈ C) : ∀ x ∈ C, rd (invL p) x ∈ C := by
 intro x hx
 obtain ⟨y, hy, e⟩ := onto hf.nodup (f := rd p) (fun a ha b hb e => rd_inj hp (hf.lo a ha) (by have := hf.hi a ha; omega) (hf.lo b hb) (by have := hf.hi b hb; omega) e) h hx
 rw [← e, rd_inv_of hp (hf.lo y hy) (by have := hf.hi y hy; omega)]
 exact hy

end Go.Proofs.Ytlohmpgbjgidpac.Q
namespace Go.Proofs.Ytlohmpgbjgidpac.Q
open Go.RowKit Go.Proofs.Ytlohmpgbjgidpac.P Go.Proofs.YtlohmpgbjgidpacW.PrintWords Go.Proofs.YtlohmpgbjgidpacW.PrintLast
/- What a renaming keeps: the steps, the periods, the lengths of the cycles. -/
theorem rd_ren {p q : List Int} (hp : IsPerm p) (hq : IsPerm q) (hl : p.length = q.length) {x : Int} (h0 : 0 ≤ x) (h1 : x < (p.length : Int)) : rd (renL p q) (rd q x) = rd q (rd p x) := by
 have b := rd_perm hq h0 (by omega)
 rw [renL, rd_then b.1 (by rw [invL_length]; exact b.2), rd_inv_of hq h0 (by omega), rd_then h0 h1]
/-- Every number is a name. -/
theorem rd_onto {q : List Int} (hq : IsPerm q) {y : Int} (h0 : 0 ≤ y) (h1 : y < (q.length : Int)) : ∃ x, 0 ≤ x ∧ x < (q.length : Int) ∧ rd q x = y := by
 have b := rd_perm hq.inv h0 (by rw [invL_length]; exact h1)
 rw [invL_length] at b
 exact ⟨rd (invL q) y, b.1, b.2, rd_of_inv hq h0 h1⟩
theorem list_ext_rd {l m : List Int} (h : l.length = m.length) (hr : ∀ x : Int, 0 ≤ x → x < (l.length : Int) → rd l x = rd m x) : l = m := by
 apply List.ext_getElem h
 intro i h1 h2
 have := hr (i : Int) (by omega) (by omega)
 rwa [rdg h1, rdg h2] at this
theorem powP_map {p q v : List Int} (hp : IsPerm p) (h : ∀ x : Int, 0 ≤ x → x < (p.length : Int) → rd q (rd v x) = rd v (rd p x)) {x : Int} (h0 : 0 ≤ x) (h1 : x < (p.length : Int)) : ∀ k, powP q k (rd v x) = rd v (powP p k x)
 | 0 => rfl
 | k + 1 => by
  have b := powP_in hp h0 h1 k
  rw [powP, powP, powP_map hp h h0 h1 k, h _ b.1 b.2]
theorem isPer_map {p q v : List Int} (hp : IsPerm p) (hv : IsPerm v) (hl : p.length = v.length) (h : ∀ x : Int, 0 ≤ x → x < (p.length : Int) → rd q (rd v x) = rd v (rd p x)) {x : Int} (h0 : 0 ≤ x) (h1 : x < (p.length : Int)) (L : Nat) : isPer q L (rd v x) = isPer p L x := by
 have e : ∀ k, (powP q k (rd v x) = rd v x ↔ powP p k x = x) := fun k => by
  have b := powP_in hp h0 h1 k
  rw [powP_map hp h h0 h1 k]
  exact ⟨fun z => rd_inj hv b.1 (by omega) h0 (by omega) z, fun z => by rw [z]⟩
 unfold isPer
 rw [decide_eq_decide]
 constructor
 ·rintro ⟨a, b, c⟩
  exact ⟨a, (e L).1 b, fun k hk k0 z => c k hk k0 ((e k).2 z)⟩
 ·rintro ⟨a, b, c⟩
  exact ⟨a, (e L).2 b, fun k hk k0 z => c k hk k0 ((e k).1 z)⟩
theorem ints_map {v : List Int} (hv : IsPerm v) : ((ints v.length).map (rd v ·)).Perm (ints v.length) := by
 refine perm_of_mem (nodup_map (ints_nodup _) fun x hx y hy e => ?_) (ints_nodup _) fun x => ⟨fun hx => ?_, fun hx => ?_⟩
 ·have a := mem_ints.1 hx
  have b := mem_ints.1 hy
  exact rd_inj hv a.1 a.2 b.1 b.2 e
 ·obtain ⟨y, hy, rfl⟩ := List.mem_map.1 hx
  have a := mem_ints.1 hy
  exact mem_ints.2 (rd_perm hv a.1 a.2)
 ·have a := mem_ints.1 hx
  obtain ⟨y, y0, y1, rfl⟩ := rd_onto hv a.1 a.2
  exact List.mem_map.2 ⟨y, mem_ints.2 ⟨y0, y1⟩, rfl⟩
theorem cnt_map {v : List Int} (hv : IsPerm v) (f g : Int → Bool) (h : ∀ x : Int, 0 ≤ x → x < (v.length : Int) → g (rd v x) = f x) : (ints v.length).countP g = (ints v.length).countP f := by
 rw [← (ints_map hv).countP_eq, List.countP_map]
 refine List.countP_congr fun x hx => ?_
 have a := mem_ints.1 hx
 rw [Function.comp, h x a.1 a.2]
theorem cycLen_ren {p q : List Int} (hp : IsPerm p) (hq : IsPerm q) (hl : p.length = q.length) : (cycLen (renL p q)).Perm (cycLen p) := by
 refine cycLen_perm (hp.ren hq hl) hp fun L => ?_
 rw [renL_length, hl]
 exact cnt_map hq _ _ fun x h0 h1 => isPer_map hp hq hl (fun x h0 h1 => rd_ren hp hq hl h0 h1) h0 (by omega) L

end Go.Proofs.Ytlohmpgbjgidpac.Q
namespace Go.Proofs.Ytlohmpgbjgidpac.Q
open Go.RowKit Go.Proofs.Ytlohmpgbjgidpac.P Go.Proofs.YtlohmpgbjgidpacW.PrintWords Go.Proofs.YtlohmpgbjgidpacW.PrintLast
/- The identity of n elements. -/
def idPerm (n : Nat) : List Int := (List.range n).map fun (j : Nat) => (j : Int)
theorem idPerm_length (n : Nat) : (idPerm n).length = n := by simp [idPerm]
theorem idPerm_succ (n : Nat) : idPerm (n + 1) = idPerm n ++ [(n : Int)] := by simp [idPerm, List.range_succ]
theorem idPerm_get (n i : Nat) (h : i < n) : (idPerm n)[i]'(by simpa [idPerm] using h) = (i : Int) := by simp [idPerm]
/-- What IdentityPerm returns. -/
def identB (a : Int) : List Int := if 0 ≤ a ∧ a ≤ 24 then idPerm a.toNat else []
theorem impl_id_loop (n : Nat) (hn : n ≤ 24) : ∀ (d i : Nat) (ys : List Int), i + d = n → ys.length = n → ys.take i = idPerm i → Ev (fun k => impl_IdentityPerm.l0 k ys n i) (idPerm n) := by
 intro d
 induction d with
 | zero =>
  intro i ys h hl hy
  refine Ev.step (fun k => by rw [impl_IdentityPerm.l0]) (Ev.neg (by omega) ?_)
  rw [List.take_of_length_le (by omega)] at hy
  rw [hy, show i = n by omega]
  exact Ev.now _
 | succ d ih =>
  intro i ys h hl hy
  refine Ev.step (fun k => by rw [impl_IdentityPerm.l0]) (Ev.pos (by omega) (Ev.pos (by omega) (Ev.pos (by omega) ?_)))
  rw [w64n (by omega), Int.toNat_natCast]
  refine ih (i + 1) _ (by omega) (by rw [List.length_set, hl]) ?_
  rw [List.take_succ_eq_append_getElem (by simp; omega), List.getElem_set_self, List.take_set_of_le (by omega), hy, idPerm_succ]
theorem impl_IdentityPerm_ev (a : Int) : Ev (fun k => impl_IdentityPerm.f k a) (identB a) := by
 refine Ev.same (fun k => by rw [impl_IdentityPerm.f]) ?_
 by_cases h : 0 ≤ a ∧ a ≤ 24
 ·obtain ⟨n, rfl⟩ := Int.eq_ofNat_of_zero_le h.1
  refine Ev.neg (by omega) ?_
  rw [decide_eq_false (by omega)]
  refine Ev.step (fun k => by rw [impl_IdentityPerm.j0]) (Ev.neg (by simp) (Ev.pos (by omega) (Ev.pos (by omega) (Ev.plain rfl ?_))))
  rw [identB, if_pos h, Int.toNat_natCast, List.length_replicate]
  exact impl_id_loop n (by omega) n 0 _ (by omega) (by simp) rfl
 ·rw [identB, if_neg h]
  by_cases h0 : a < 0
  ·refine Ev.pos h0 ?_
   exact Ev.step (fun k => by rw [impl_IdentityPerm.j0]) (Ev.pos rfl (Ev.now _))
  ·refine Ev.neg h0 ?_
   rw [decide_eq_true (by omega)]
   exact Ev.step (fun k => by rw [impl_IdentityPerm.j0]) (Ev.pos rfl (Ev.now _))

end Go.Proofs.Ytlohmpgbjgidpac.Q
namespace Go.Proofs.Ytlohmpgbjgidpac.Q
open Go.RowKit Go.Proofs.Ytlohmpgbjgidpac.P Go.Proofs.YtlohmpgbjgidpacW.PrintWords Go.Proofs.YtlohmpgbjgidpacW.PrintLast
/- A list that is filled place by place along a permutation. -/
def fillAt (q : List Int) (g : Nat → Int) (i : Nat) : List Int := (List.range q.length).map fun (j : Nat) => if posOf q (j : Int) < i then g (posOf q (j : Int)) else 0
theorem fillAt_length (q : List Int) (g : Nat → Int) (i : Nat) : (fillAt q g i).length = q.length := by simp [fillAt]
theorem fillAt_get (q : List Int) (g : Nat → Int) (i : Nat) {j : Nat} (h : j < q.length) : (fillAt q g i)[j]'(by rw [fillAt_length]; exact h) = if posOf q (j : Int) < i then g (posOf q (j : Int)) else 0 := by simp [fillAt]
theorem fillAt_zero (q : List Int) (g : Nat → Int) : fillAt q g 0 = List.replicate q.length 0 := by
 apply List.ext_getElem (by rw [fillAt_length, List.length_replicate])
 intro j h1 h2
 rw [fillAt_length] at h1
 rw [fillAt_get q g 0 h1]
 simp
theorem fillAt_set {q : List Int} (hq : IsPerm q) (g : Nat → Int) {i : Nat} (hi : i < q.length) : (fillAt q g i).set (q[i]).toNat (g i) = fillAt q g (i + 1) := by
 apply List.ext_getElem (by rw [List.length_set, fillAt_length, fillAt_length])
 intro j h1 h2
 rw [fillAt_length] at h2
 rw [fillAt_get q g (i + 1) h2, List.getElem_set]
 have m := hq.mem (j := (j : Int)) (by omega) (by omega)
 have a := posOf_get m
 have l0 := hq.get_lo hi
 split
 ·rename_i e
  have e2 : (j : Int) = q[i] := by omega
  rw [e2, hq.posOf_at hi]
  simp
 ·rename_i e
  rw [fillAt_get q g i h2]
  have hne : posOf q (j : Int) ≠ i := by
   intro e2
   simp only [e2] at a
   omega
  by_cases c : posOf q (j : Int) < i
  ·rw [if_pos c, if_pos (by omega)]
  ·rw [if_neg c, if_neg (by omega)]
theorem fill_inv {p : List Int} (hp : IsPerm p) : fillAt p (fun i => (i : Int)) p.length = invL p := by
 apply List.ext_getElem (by rw [fillAt_length, invL_length])
 intro j h1 h2
 rw [invL_length] at h2
 rw [fillAt_get p _ _ h2, invL_get p h2]
 exact if_pos (posOf_lt (hp.mem (by omega) (by omega)))
theorem fill_ren {p q : List Int} (hq : IsPerm q) (hl : p.length = q.length) : fillAt q (fun i => rd q (rd p (i : Int))) q.length = renL p q := by
 apply List.ext_getElem (by rw [fillAt_length, renL_length])
 intro j h1 h2
 rw [renL_length] at h2
 rw [fillAt_get q _ _ h2]
 have m := hq.mem (j := (j : Int)) (by omega) (by omega)
 have lt := posOf_lt m
 rw [if_pos lt]
 show _ = (thenL (invL q) (thenL p q))[j]'(by rw [thenL_length, invL_length]; exact h2)
 rw [thenL_get _ _ (by rw [invL_length]; exact h2), invL_get q h2, rdg (xs := thenL p q) (by rw [thenL_length]; omega), thenL_get p q (by omega), rdg (xs := p) (by omega)]

end Go.Proofs.Ytlohmpgbjgidpac.Q
namespace Go.Proofs.Ytlohmpgbjgidpac.Q
open Go.RowKit Go.Proofs.Ytlohmpgbjgidpac.P Go.Proofs.YtlohmpgbjgidpacW.PrintWords Go.Proofs.YtlohmpgbjgidpacW.PrintLast
/- The two InversePerm functions. -/
/-- What InversePerm returns. -/
def invB (p : List Int) : List Int := if permB p = true then invL p else []
theorem impl_inv2_loop (p : List Int) (hp : IsPerm p) (hn : p.length ≤ 24) : ∀ (d i : Nat), i + d = p.length →
  Ev (fun k => impl_InversePerm.l0 k (fillAt p (fun i => (i : Int)) i) p (p.length : Int) i) (invL p) := by
 intro d
 induction d with
 | zero =>
  intro i h
  refine Ev.step (fun k => by rw [impl_InversePerm.l0]) (Ev.neg (by omega) ?_)
  rw [show i = p.length by omega, fill_inv hp]
  exact Ev.now _
 | succ d ih =>
  intro i h
  have a := hp.get_lo (i := i) (by omega)
  have b := hp.get_hi (i := i) (by omega)
  refine Ev.step (fun k => by rw [impl_InversePerm.l0]) ?_
  rw [rdg (by omega), w64n (by omega)]
  rw [fillAt_length, fillAt_set hp (fun i => (i : Int)) (by omega)]
  refine Ev.pos (by omega) (Ev.pos (by omega) (Ev.pos (by omega) (Ev.pos (by omega) (Ev.pos (by omega) ?_))))
  exact ih (i + 1) (by omega)
theorem impl_InversePerm_ev (p : List Int) : Ev (fun k => impl_InversePerm.f k p) (invB p) := by
 refine Ev.same (fun k => by rw [impl_InversePerm.f]) (Ev.plain (impl_PermOk_some p) ?_)
 unfold invB
 by_cases h : permB p = true
 ·have h' := (permB_iff p).1 h
  rw [if_pos h]
  refine Ev.pos h (Ev.pos (by omega) (Ev.pos (by omega) ?_))
  have := impl_inv2_loop p h'.2 h'.1 p.length 0 (by omega)
  rw [fillAt_zero] at this
  simpa using this
 ·rw [if_neg h]
  exact Ev.neg h (Ev.now _)

end Go.Proofs.Ytlohmpgbjgidpac.Q
namespace Go.Proofs.Ytlohmpgbjgidpac.Q
open Go.RowKit Go.Proofs.Ytlohmpgbjgidpac.P Go.Proofs.YtlohmpgbjgidpacW.PrintWords Go.Proofs.YtlohmpgbjgidpacW.PrintLast
/- The two ThenPerm functions. -/
/-- What ThenPerm returns. -/
def thenB (p q : List Int) : List Int := if permB p = true ∧ permB q = true ∧ p.length = q.length then thenL p q else []
theorem then_in {p q : List Int} (h : permB p = true) (hl : p.length = q.length) : ∀ (i : Nat) (hi : i < p.length), 0 ≤ p[i] ∧ p[i] < (q.length : Int) := fun i hi => by
 have := ((permB_iff p).1 h).2
 exact ⟨this.get_lo hi, by have := this.get_hi hi; omega⟩
theorem impl_then_loop (p q : List Int) (h0 : ∀ (i : Nat) (hi : i < p.length), 0 ≤ p[i] ∧ p[i] < (q.length : Int)) (hn : p.length ≤ 24) : ∀ (d i : Nat) (ys : List Int), i + d = p.length → ys.length = p.length → ys.take i = (thenL p q).take i →
  Ev (fun k => impl_ThenPerm.l0 k q ys p (p.length : Int) i) (thenL p q) := by
 intro d
 induction d with
 | zero =>
  intro i ys h hl hy
  refine Ev.step (fun k => by rw [impl_ThenPerm.l0]) (Ev.neg (by omega) ?_)
  rw [List.take_of_length_le (by omega), List.take_of_length_le (by rw [thenL_length]; omega)] at hy
  rw [hy]
  exact Ev.now _
 | succ d ih =>
  intro i ys h hl hy
  have a := h0 i (by omega)
  refine Ev.step (fun k => by rw [impl_ThenPerm.l0]) ?_
  rw [rdg (by omega), w64n (by omega)]
  refine Ev.pos (by omega) (Ev.pos (by omega) (Ev.pos (by omega) (Ev.pos (by omega) (Ev.pos (by omega) (Ev.pos (by omega) ?_)))))
  rw [Int.toNat_natCast]
  refine ih (i + 1) _ (by omega) (by rw [List.length_set, hl]) ?_
  rw [List.take_succ_eq_append_getElem (by simp; omega), List.getElem_set_self, List.take_set_of_le (by omega), hy, List.take_succ_eq_append_getElem (l := thenL p q) (by rw [thenL_length]; omega), thenL_get p q (by omega)]
theorem impl_ThenPerm_ev (p q : List Int) : Ev (fun k => impl_ThenPerm.f k p q) (thenB p q) := by
 have no : Ev (fun k => impl_ThenPerm.j0 k p q true) [] := Ev.step (fun k => by rw [impl_ThenPerm.j0]) (Ev.pos rfl (Ev.now _))
 refine Ev.same (fun k => by rw [impl_ThenPerm.f]) (Ev.plain (impl_PermOk_some p) ?_)
 unfold thenB
 by_cases h : permB p = true
 ·refine Ev.pos h (Ev.plain (impl_PermOk_some q) ?_)
  by_cases h' : permB q = true
  ·refine Ev.pos h' ?_
   by_cases e : p.length = q.length
   ·rw [if_pos ⟨h, h', e⟩, show ((p.length : Int) != (q.length : Int)) = false by simp [e]]
    have hp := (permB_iff p).1 h
    refine Ev.step (fun k => by rw [impl_ThenPerm.j0]) (Ev.neg (by simp) (Ev.pos (by omega) (Ev.pos (by omega) ?_)))
    exact impl_then_loop p q (then_in h e) hp.1 p.length 0 _ (by omega) (by simp) (by simp)
   ·rw [if_neg (fun z => e z.2.2), show ((p.length : Int) != (q.length : Int)) = true by simp; omega]
    exact no
  ·rw [if_neg (fun z => h' z.2.1)]
   exact Ev.neg h' no
 ·rw [if_neg (fun z => h z.1)]
  exact Ev.neg h no

end Go.Proofs.Ytlohmpgbjgidpac.Q
namespace Go.Proofs.Ytlohmpgbjgidpac.Q
open Go.RowKit Go.Proofs.Ytlohmpgbjgidpac.P Go.Proofs.YtlohmpgbjgidpacW.PrintWords Go.Proofs.YtlohmpgbjgidpacW.PrintLast
/- The two RenamePerm functions. -/
/-- What RenamePerm returns. -/
def renB (p q : List Int) : List Int := if permB p = true ∧ permB q = true ∧ p.length = q.length then renL p q else []
theorem impl_ren_loop (p q : List Int) (hp : IsPerm p) (hq : IsPerm q) (hl : p.length = q.length) (hn : p.length ≤ 24) : ∀ (d i : Nat), i + d = p.length →
  Ev (fun k => impl_RenamePerm.l0 k q (fillAt q (fun i => rd q (rd p (i : Int))) i) p (p.length : Int) i) (renL p q) := by
 intro d
 induction d with
 | zero =>
  intro i h
  refine Ev.step (fun k => by rw [impl_RenamePerm.l0]) (Ev.neg (by omega) ?_)
  rw [show i = q.length by omega, fill_ren hq hl]
  exact Ev.now _
 | succ d ih =>
  intro i h
  have a := hp.get_lo (i := i) (by omega)
  have b := hp.get_hi (i := i) (by omega)
  have a' := hq.get_lo (i := i) (by omega)
  have b' := hq.get_hi (i := i) (by omega)
  refine Ev.step (fun k => by rw [impl_RenamePerm.l0]) ?_
  have s := fillAt_set hq (fun i => rd q (rd p (i : Int))) (i := i) (by omega)
  rw [rdg (xs := p) (by omega)] at s
  rw [rdg (xs := p) (by omega), rdg (xs := q) (i := i) (by omega), w64n (by omega), fillAt_length, s]
  refine Ev.pos (by omega) (Ev.pos (by omega) (Ev.pos (by omega) (Ev.pos (by omega) (Ev.pos (by omega) (Ev.pos (by omega) (Ev.pos (by omega) (Ev.pos (by omega) ?_)))))))
  exact ih (i + 1) (by omega)
theorem impl_RenamePerm_ev (p q : List Int) : Ev (fun k => impl_RenamePerm.f k p q) (renB p q) := by
 have no : Ev (fun k => impl_RenamePerm.j0 k p q true) [] := Ev.step (fun k => by rw [impl_RenamePerm.j0]) (Ev.pos rfl (Ev.now _))
 refine Ev.same (fun k => by rw [impl_RenamePerm.f]) (Ev.plain (impl_PermOk_some p) ?_)
 unfold renB
 by_cases h : permB p = true
 ·refine Ev.pos h (Ev.plain (impl_PermOk_some q) ?_)
  by_cases h' : permB q = true
  ·refine Ev.pos h' ?_
   by_cases e : p.length = q.length
   ·rw [if_pos ⟨h, h', e⟩, show ((p.length : Int) != (q.length : Int)) = false by simp [e]]
    have hp := (permB_iff p).1 h
    refine Ev.step (fun k => by rw [impl_RenamePerm.j0]) (Ev.neg (by simp) (Ev.pos (by omega) (Ev.pos (by omega) ?_)))
    have := impl_ren_loop p q hp.2 ((permB_iff q).1 h').2 e hp.1 p.length 0 (by omega)
    rw [fillAt_zero, ← e] at this
    simpa using this
   ·rw [if_neg (fun z => e z.2.2), show ((p.length : Int) != (q.length : Int)) = true by simp; omega]
    exact no
  ·rw [if_neg (fun z => h' z.2.1)]
   exact Ev.neg h' no
 ·rw [if_neg (fun z => h z.1)]
  exact Ev.neg h no

end Go.Proofs.Ytlohmpgbjgidpac.Q
namespace Go.Proofs.Ytlohmpgbjgidpac.Q
open Go.RowKit Go.Proofs.Ytlohmpgbjgidpac.P Go.Proofs.YtlohmpgbjgidpacW.PrintWords Go.Proofs.YtlohmpgbjgidpacW.PrintLast
/- Permutations form a group. -/
theorem rd_id {n : Nat} {x : Int} (h0 : 0 ≤ x) (h1 : x < (n : Int)) : rd (idPerm n) x = x := by
 rw [rd_of h0 (by rw [idPerm_length]; exact h1), idPerm_get n x.toNat (by omega)]
 omega
theorem then_id {p q : List Int} (hp : IsPerm p) (hq : IsPerm q) (hl : p.length = q.length) : thenL (thenL p q) (thenL (invL q) (invL p)) = idPerm p.length := by
 apply list_ext_rd (by rw [thenL_length, thenL_length, idPerm_length])
 intro x h0 h1
 rw [thenL_length, thenL_length] at h1
 have b := rd_perm hp h0 h1
 have b' := rd_perm hq b.1 (by omega)
 rw [rd_then h0 (by rw [thenL_length]; exact h1), rd_then h0 h1, rd_then b'.1 (by rw [invL_length]; exact b'.2), rd_inv_of hq b.1 (by omega), rd_inv_of hp h0 h1, rd_id h0 h1]
theorem inv_then {p q : List Int} (hp : IsPerm p) (hq : IsPerm q) (hl : p.length = q.length) : invL (thenL p q) = thenL (invL q) (invL p) := by
 have P := hp.then hq hl
 apply list_ext_rd (by rw [invL_length, thenL_length, thenL_length, invL_length]; exact hl)
 intro y h0 h1
 rw [invL_length] at h1
 obtain ⟨x, x0, x1, e⟩ := rd_onto P h0 h1
 rw [thenL_length] at x1 h1
 have b := rd_perm hp x0 x1
 have b' := rd_perm hq b.1 (by omega)
 rw [← e, rd_inv_of P x0 (by rw [thenL_length]; exact x1), rd_then x0 x1, rd_then b'.1 (by rw [invL_length]; exact b'.2), rd_inv_of hq b.1 (by omega), rd_inv_of hp x0 x1]
theorem ren_then {p q : List Int} (hp : IsPerm p) (hq : IsPerm q) (hl : p.length = q.length) : renL p q = thenL (thenL (invL q) p) q := by
 apply list_ext_rd (by rw [renL_length, thenL_length, thenL_length, invL_length])
 intro y h0 h1
 rw [renL_length] at h1
 have b := rd_perm hq.inv h0 (by rw [invL_length]; exact h1)
 rw [invL_length] at b
 rw [renL, rd_then h0 (by rw [invL_length]; exact h1), rd_then b.1 (by omega), rd_then h0 (by rw [thenL_length, invL_length]; exact h1), rd_then h0 (by rw [invL_length]; exact h1)]

end Go.Proofs.Ytlohmpgbjgidpac.Q
namespace Go.Proofs.Ytlohmpgbjgidpac.Q
open Go.RowKit Go.Proofs.Ytlohmpgbjgidpac.P Go.Proofs.YtlohmpgbjgidpacW.PrintWords Go.Proofs.YtlohmpgbjgidpacW.PrintLast
/- Numbers in descending order: insertion, and that the order is one. -/
def Desc (l : List Int) : Prop := l.Pairwise (fun a b => b ≤ a)
theorem desc_unique : ∀ {l m : List Int}, l.Perm m → Desc l → Desc m → l = m
 | [], m, h, _, _ => by rw [List.nil_perm.1 h]
 | x :: l, [], h, _, _ => by simp at h
 | x :: l, y :: m, h, hl, hm => by
  have hl := List.pairwise_cons.1 hl
  have hm := List.pairwise_cons.1 hm
  have e : x = y := by
   have a : x ∈ y :: m := h.mem_iff.1 (by simp)
   have b : y ∈ x :: l := h.mem_iff.2 (by simp)
   rcases List.mem_cons.1 a with e | a
   ·exact e
   ·rcases List.mem_cons.1 b with e | b
    ·exact e.symm
    ·have := hl.1 _ b
     have := hm.1 _ a
     omega
  subst e
  rw [desc_unique h.cons_inv hl.2 hm.2]
/-- One number moved down to its place. -/
def insF : Nat → List Int → Int → List Int
 | 0, out, x => out.set 0 x
 | k + 1, out, x => if rd out (k : Int) < x then insF k (out.set (k + 1) (rd out (k : Int))) x else out.set (k + 1) x
theorem insF_spec (x : Int) : ∀ (k : Nat) (A B : List Int) (g : Int), A.length = k → Desc (A ++ B) → (∀ b ∈ B, b < x) → (insF k (A ++ g :: B) x).Perm (x :: (A ++ B)) ∧ Desc (insF k (A ++ g :: B) x)
 | 0, A, B, g, h, hs, hb => by
  obtain rfl := List.length_eq_zero_iff.1 h
  refine ⟨List.Perm.refl _, List.pairwise_cons.2 ⟨fun b hh => ?_, hs⟩⟩
  have := hb b hh
  omega
 | k + 1, A, B, g, h, hs, hb => by
  obtain ⟨A', a, rfl⟩ : ∃ A' a, A = A' ++ [a] := ⟨A.dropLast, A.getLast (by intro z; simp [z] at h), (List.dropLast_concat_getLast _).symm⟩
  have l : A'.length = k := by simpa using h
  have ra : rd (A' ++ [a] ++ g :: B) (k : Int) = a := by
   rw [rdn, List.getD_eq_getElem?_getD, List.append_assoc, List.getElem?_append_right (by omega), l, Nat.sub_self]
   rfl
  have st : ∀ v, (A' ++ [a] ++ g :: B).set (k + 1) v = A' ++ [a] ++ v :: B := fun v => by
   rw [List.set_append_right _ _ (by simp [l]), List.length_append, l]
   simp
  rw [insF, ra, st]
  by_cases c : a < x
  ·rw [if_pos c]
   have := insF_spec x k A' (a :: B) a l (by simpa using hs) (fun b hh => by
    rcases List.mem_cons.1 hh with rfl | hh
    ·exact c
    ·exact hb b hh)
   rw [show A' ++ [a] ++ a :: B = A' ++ a :: (a :: B) by simp, show A' ++ [a] ++ B = A' ++ a :: B by simp]
   exact this
  ·rw [if_neg c, st]
   refine ⟨List.perm_middle, ?_⟩
   have hp := List.pairwise_append.1 hs
   have ha := List.pairwise_append.1 hp.1
   refine List.pairwise_append.2 ⟨hp.1, List.pairwise_cons.2 ⟨fun b hh => by have := hb b hh; omega, hp.2.1⟩, fun y hy z hz => ?_⟩
   have yx : x ≤ y := by
    rcases List.mem_append.1 hy with hy | hy
    ·have := ha.2.2 y hy a (by simp); omega
    ·rw [List.mem_singleton.1 hy]; omega
   rcases List.mem_cons.1 hz with rfl | hz
   ·exact yx
   ·exact hp.2.2 y hy z hz
theorem insF_length (x : Int) : ∀ (k : Nat) (out : List Int), (insF k out x).length = out.length
 | 0, out => by simp [insF]
 | k + 1, out => by
  rw [insF]
  split
  ·rw [insF_length x k, List.length_set]
  ·rw [List.length_set]
/-- The list in descending order. -/
def descF : List Int → List Int → List Int
 | [], out => out
 | x :: l, out => descF l (insF out.length (out ++ [0]) x)
def descL (l : List Int) : List Int := descF l []
theorem descF_spec : ∀ (l out : List Int), Desc out → (descF l out).Perm (l ++ out) ∧ Desc (descF l out)
 | [], out, h => ⟨List.Perm.refl _, h⟩
 | x :: l, out, h => by
  have i := insF_spec x out.length out [] 0 rfl (by simpa using h) (by simp)
  have := descF_spec l _ i.2
  refine ⟨this.1.trans ?_, this.2⟩
  rw [List.cons_append]
  refine (List.Perm.append_left l i.1).trans ?_
  rw [List.append_nil]
  exact List.perm_middle
theorem descL_spec (l : List Int) : (descL l).Perm l ∧ Desc (descL l) := by
 have := descF_spec l [] List.Pairwise.nil
 rwa [List.append_nil] at this
theorem descL_perm {l m : List Int} (h : l.Perm m) : descL l = descL m :=
 desc_unique ((descL_spec l).1.trans (h.trans (descL_spec m).1.symm)) (descL_spec l).2 (descL_spec m).2
theorem descL_length (l : List Int) : (descL l).length = l.length := (descL_spec l).1.length_eq

end Go.Proofs.Ytlohmpgbjgidpac.Q
namespace Go.Proofs.Ytlohmpgbjgidpac.Q
open Go.RowKit Go.Proofs.Ytlohmpgbjgidpac.P Go.Proofs.YtlohmpgbjgidpacW.PrintWords Go.Proofs.YtlohmpgbjgidpacW.PrintLast
/- The laws' own sorting: descending order. -/
theorem insert_ev (l : List Int) (i : Nat) (x : Int) (r : List Int) : ∀ (kk : Nat) (out : List Int), kk < out.length → out.length < 1000000 →
  Ev (fun k => laws_sorted.l0 k (insF kk out x) l (l.length : Int) (wrap64 ((i : Int) + 1))) r → Ev (fun k => laws_sorted.l1 k out x kk l (l.length : Int) i) r
 | 0, out, h, hl, hr => by
  refine Ev.step (fun k => by rw [laws_sorted.l1]) (Ev.neg (by omega) (Ev.pos (by omega) (Ev.pos (by omega) ?_)))
  exact hr
 | kk + 1, out, h, hl, hr => by
  refine Ev.step (fun k => by rw [laws_sorted.l1]) (Ev.pos (by omega) ?_)
  rw [show wrap64 (((kk + 1 : Nat) : Int) - 1) = (kk : Int) by rw [w64 (by omega) (by omega)]; omega]
  refine Ev.pos (by omega) (Ev.pos (by omega) ?_)
  rw [insF] at hr
  by_cases c : rd out (kk : Int) < x
  ·rw [if_pos c] at hr
   refine Ev.pos c (Ev.pos (by omega) (Ev.pos (by omega) ?_))
   exact insert_ev l i x r kk _ (by rw [List.length_set]; omega) (by rw [List.length_set]; exact hl) hr
  ·rw [if_neg c] at hr
   refine Ev.neg c (Ev.pos (by omega) (Ev.pos (by omega) ?_))
   exact hr
theorem sorted_loop (l : List Int) (hl : l.length < 100000) : ∀ (d i : Nat) (out : List Int), i + d = l.length → out.length = i → Ev (fun k => laws_sorted.l0 k out l (l.length : Int) i) (descF (l.drop i) out) := by
 intro d
 induction d with
 | zero =>
  intro i out h ho
  refine Ev.step (fun k => by rw [laws_sorted.l0]) (Ev.neg (by omega) ?_)
  rw [List.drop_of_length_le (by omega)]
  exact Ev.now _
 | succ d ih =>
  intro i out h ho
  refine Ev.step (fun k => by rw [laws_sorted.l0]) (Ev.pos (by omega) (Ev.pos (by omega) (Ev.pos (by omega) (Ev.pos (by omega) (Ev.plain rfl ?_)))))
  have e0 : wrap64 (((out ++ [(0 : Int)]).length : Int) - 1) = ((out.length : Nat) : Int) := by
   have z : (out ++ [(0 : Int)]).length = out.length + 1 := by simp
   rw [z, w64 (by omega) (by omega)]
   omega
  rw [rdg (by omega), e0]
  refine insert_ev l i _ _ out.length (out ++ [0]) (by simp) (by simp; omega) ?_
  rw [List.drop_eq_getElem_cons (by omega), descF, w64n (by omega)]
  exact ih (i + 1) _ (by omega) (by rw [insF_length]; simp; omega)
theorem sorted_ev (l : List Int) (hl : l.length < 100000) : Ev (fun k => laws_sorted.f k l) (descL l) := by
 refine Ev.same (fun k => by rw [laws_sorted.f]) ?_
 exact sorted_loop l hl l.length 0 [] (by omega) rfl
theorem rdL' {xs : List (List Int)} {i : Nat} (h : i < xs.length) : rd_L1 xs (i : Int) = xs[i] := by simp [rd_L1, h]
theorem lengths_loop (cs : List (List Int)) (hl : cs.length < 100000) : ∀ (d i : Nat), i + d = cs.length → Ev (fun k => laws_lengths.l0 k ((cs.take i).map fun c => (c.length : Int)) cs (cs.length : Int) i) (descL (cs.map fun c => (c.length : Int))) := by
 intro d
 induction d with
 | zero =>
  intro i h
  refine Ev.step (fun k => by rw [laws_lengths.l0]) (Ev.neg (by omega) ?_)
  rw [List.take_of_length_le (by omega)]
  exact Ev.bind (sorted_ev _ (by rw [List.length_map]; omega)) (Ev.now _)
 | succ d ih =>
  intro i h
  refine Ev.step (fun k => by rw [laws_lengths.l0]) (Ev.pos (by omega) (Ev.pos (by omega) (Ev.pos (by omega) (Ev.pos (by rw [List.length_map, List.length_take]; omega) ?_))))
  have := ih (i + 1) (by omega)
  rw [List.take_succ_eq_append_getElem (by omega), List.map_append] at this
  rw [rdL' (by omega), w64n (by omega)]
  exact this
theorem lengths_ev (cs : List (List Int)) (hl : cs.length < 100000) : Ev (fun k => laws_lengths.f k cs) (descL (cs.map fun c => (c.length : Int))) := by
 refine Ev.same (fun k => by rw [laws_lengths.f]) ?_
 exact lengths_loop cs hl cs.length 0 (by omega)
theorem same_loop (xs : List Int) (hn : xs.length < 9223372036854775807) : ∀ (d i : Nat), i + d = xs.length → Ev (fun k => laws_same.l0 k xs xs (xs.length : Int) i) true := by
 intro d
 induction d with
 | zero =>
  intro i h
  exact Ev.step (fun k => by rw [laws_same.l0]) (Ev.neg (by omega) (Ev.now _))
 | succ d ih =>
  intro i h
  refine Ev.step (fun k => by rw [laws_same.l0]) (Ev.pos (by omega) (Ev.pos (by omega) (Ev.pos (by omega) (Ev.pos (by omega) (Ev.pos rfl ?_)))))
  rw [w64n (by omega)]
  exact ih (i + 1) (by omega)
theorem same_self (xs : List Int) (hn : xs.length < 9223372036854775807) : Ev (fun k => laws_same.f k xs xs) true := by
 refine Ev.same (fun k => by rw [laws_same.f]) (Ev.pos rfl ?_)
 exact same_loop xs hn xs.length 0 (by omega)

end Go.Proofs.Ytlohmpgbjgidpac.Q
namespace Go.Proofs.Ytlohmpgbjgidpac.Q
open Go.RowKit Go.Proofs.Ytlohmpgbjgidpac.P Go.Proofs.YtlohmpgbjgidpacW.PrintWords Go.Proofs.YtlohmpgbjgidpacW.PrintLast
/- What the constructors of the laws' arguments come to: some number within its bounds, some permutation. -/
theorem and255 (y : Int) : ∃ m : Nat, m < 256 ∧ Go.bits .and .i64 y 255 = (m : Int) := by
 have hx : (BitVec.ofInt 64 y).toNat &&& 255 ≤ 255 := Nat.and_le_right
 refine ⟨(BitVec.ofInt 64 y).toNat &&& 255, by omega, ?_⟩
 show IntKind.i64.wrap ((BitVec.ofInt 64 y &&& BitVec.ofInt 64 255).toNat : Int) = _
 rw [BitVec.toNat_and, show (BitVec.ofInt 64 255).toNat = 255 by decide]
 rw [i64_w]
 exact w64 (by omega) (by omega)
theorem byte_some (b : List Int) (i h : Int) (h0 : 0 ≤ i) (h1 : i ≤ (b.length : Int)) (hl : b.length < 4611686018427387904) : ∃ x i' h', spec_l01Byte.f b i h = some (x, i', h') ∧ (0 ≤ x ∧ x < 256) ∧ 0 ≤ i' ∧ i' ≤ (b.length : Int) := by
 unfold spec_l01Byte.f
 by_cases c : i < (b.length : Int)
 ·rw [if_pos c, if_pos h0]
  obtain ⟨m, hm, e⟩ := and255 (wrap64 ((Go.bits .and .i64 (Go.bits .xor .i64 ((wrap64 ((wrap64 (h * 6364136223846793005)) + 1442695040888963407)) / 8589934592) ((wrap64 ((wrap64 (h * 6364136223846793005)) + 1442695040888963407)) / 35184372088832)) 255) + (wrap64 (rd b i))))
  rw [e, w64 (by omega) (by omega)]
  exact ⟨_, _, _, rfl, by omega, by omega, by omega⟩
 ·rw [if_neg c]
  obtain ⟨m, hm, e⟩ := and255 (Go.bits .xor .i64 ((wrap64 ((wrap64 (h * 6364136223846793005)) + 1442695040888963407)) / 8589934592) ((wrap64 ((wrap64 (h * 6364136223846793005)) + 1442695040888963407)) / 35184372088832))
  rw [e]
  exact ⟨_, _, _, rfl, by omega, h0, h1⟩
theorem below_some (b : List Int) (i h n : Int) (h0 : 0 ≤ i) (h1 : i ≤ (b.length : Int)) (hl : b.length < 4611686018427387904) (n0 : 0 < n) (n1 : n ≤ 256) : ∃ x i' h', spec_l01Below.f b i h n = some (x, i', h') ∧ (0 ≤ x ∧ x < n) ∧ 0 ≤ i' ∧ i' ≤ (b.length : Int) := by
 obtain ⟨x, i', h', e, hx, hi⟩ := byte_some b i h h0 h1 hl
 unfold spec_l01Below.f
 rw [if_neg (by omega), if_pos n1, e]
 simp only [Option.bind_some]
 rw [if_neg (by omega)]
 refine ⟨_, _, _, rfl, ?_, hi⟩
 rw [Int.tmod_eq_emod_of_nonneg hx.1]
 exact ⟨Int.emod_nonneg _ (by omega), Int.emod_lt_of_pos _ n0⟩
theorem new_loop (l : List Int) (hl : l.length < 4611686018427387904) : ∀ (d i : Nat) (h : Int), i + d = l.length → ∃ h', Ev (fun k => spec_l01New.l0 k l h i) (l, 0, h') := by
 intro d
 induction d with
 | zero =>
  intro i h hi
  exact ⟨h, Ev.step (fun k => by rw [spec_l01New.l0]) (Ev.neg (by omega) (Ev.now _))⟩
 | succ d ih =>
  intro i h hi
  by_cases c : (i : Int) < 4000
  ·obtain ⟨h', e⟩ := ih (i + 1) (Go.bits .and .i64 (wrap64 ((wrap64 ((wrap64 (h * 109)) + (wrap64 (rd l i)))) + 7)) 1073741823) (by omega)
   refine ⟨h', Ev.step (fun k => by rw [spec_l01New.l0]) (Ev.pos (by omega) (Ev.pos c (Ev.pos (by omega) ?_)))⟩
   rw [w64n (by omega)]
   exact e
  ·exact ⟨h, Ev.step (fun k => by rw [spec_l01New.l0]) (Ev.pos (by omega) (Ev.neg c (Ev.now _)))⟩
theorem new_ev (l : List Int) (hl : l.length < 4611686018427387904) : ∃ h, Ev (fun k => spec_l01New.f k l) (l, 0, h) := by
 obtain ⟨h, e⟩ := new_loop l hl l.length 0 (wrap64 (2073 + (l.length : Int))) (by omega)
 exact ⟨h, Ev.same (fun k => by rw [spec_l01New.f]; rfl) e⟩
theorem l20_loop (l : List Int) (hl : l.length < 4611686018427387904) (n : Nat) (hn : n < 1000) : ∀ (d j : Nat) (i h : Int), j + d = n → 0 ≤ i → i ≤ (l.length : Int) → ∃ i' h', Ev (fun k => spec_l20New.l0 k n j l i h) (l, i', h') ∧ 0 ≤ i' ∧ i' ≤ (l.length : Int) := by
 intro d
 induction d with
 | zero =>
  intro j i h hj h0 h1
  exact ⟨i, h, Ev.step (fun k => by rw [spec_l20New.l0]) (Ev.neg (by omega) (Ev.now _)), h0, h1⟩
 | succ d ih =>
  intro j i h hj h0 h1
  obtain ⟨x, i', h', e, _, a, b⟩ := byte_some l i h h0 h1 hl
  obtain ⟨i2, h2, e2, c⟩ := ih (j + 1) i' h' (by omega) a b
  refine ⟨i2, h2, Ev.step (fun k => by rw [spec_l20New.l0]) (Ev.pos (by omega) (Ev.plain e ?_)), c⟩
  rw [w64n (by omega)]
  exact e2
theorem l20_ev (l : List Int) (hl : l.length < 4611686018427387904) (n : Nat) (hn : n < 1000) : ∃ i h, Ev (fun k => spec_l20New.f k l (n : Int)) (l, i, h) ∧ 0 ≤ i ∧ i ≤ (l.length : Int) := by
 obtain ⟨h, e⟩ := new_ev l hl
 obtain ⟨i', h', e', a, b⟩ := l20_loop l hl n hn n 0 0 h (by omega) (by omega) (by omega)
 exact ⟨i', h', Ev.same (fun k => by rw [spec_l20New.f]) (Ev.bind e e'), a, b⟩
/-- Some number from 0 up to 65536. -/
theorem MakeNum_ev (l : List Int) (hl : l.length < 4611686018427387904) (n : Nat) (hn : n < 1000) : ∃ r : Int, Ev (fun k => spec_MakeNum.f k l (n : Int)) r ∧ 0 ≤ r ∧ r < 65536 := by
 obtain ⟨i, h, e, a, b⟩ := l20_ev l hl n hn
 obtain ⟨x, i1, h1, e1, x1, a1, b1⟩ := byte_some l i h a b hl
 obtain ⟨y, i2, h2, e2, y1, _⟩ := byte_some l i1 h1 a1 b1 hl
 refine ⟨wrap64 ((wrap64 (x * 256)) + y), Ev.same (fun k => by rw [spec_MakeNum.f]) (Ev.bind e ?_), ?_⟩
 ·refine Ev.plain e1 ?_
  refine Ev.plain e2 ?_
  exact Ev.now _
 rw [w64 (x := x * 256) (by omega) (by omega), w64 (by omega) (by omega)]
 omega
theorem swap_perm {y : List Int} (hy : IsPerm y) {a b : Nat} (ha : a < y.length) (hb : b < y.length) : IsPerm ((y.set b y[a]).set a y[b]) := by
 have at_ : ∀ (i : Nat) (hi : i < ((y.set b y[a]).set a y[b]).length), ∃ (j : Nat) (hj : j < y.length), ((y.set b y[a]).set a y[b])[i] = y[j] ∧ (a = i ∧ j = b ∨ a ≠ i ∧ b = i ∧ j = a ∨ a ≠ i ∧ b ≠ i ∧ j = i) := by
  intro i hi
  simp only [List.length_set] at hi
  rw [List.getElem_set, List.getElem_set]
  by_cases c : a = i
  ·rw [if_pos c]; exact ⟨b, hb, rfl, .inl ⟨c, rfl⟩⟩
  ·rw [if_neg c]
   by_cases c' : b = i
   ·rw [if_pos c']; exact ⟨a, ha, rfl, .inr (.inl ⟨c, c', rfl⟩)⟩
   ·rw [if_neg c']; exact ⟨i, hi, rfl, .inr (.inr ⟨c, c', rfl⟩)⟩
 refine IsPerm.mk' (fun i hi => ?_) (fun i j hi hj e => ?_)
 ·obtain ⟨k, hk, z, _⟩ := at_ i hi
  rw [z, List.length_set, List.length_set]
  exact ⟨hy.get_lo hk, hy.get_hi hk⟩
 ·obtain ⟨k, hk, z, c⟩ := at_ i hi
  obtain ⟨k', hk', z', c'⟩ := at_ j hj
  rw [z, z'] at e
  have := hy.inj hk hk' e
  omega
theorem snoc_perm {p : List Int} (hp : IsPerm p) : IsPerm (p ++ [(p.length : Int)]) := by
 refine ⟨fun x hx => ?_, fun x hx => ?_, ?_⟩
 ·rcases List.mem_append.1 hx with hx | hx
  ·exact hp.lo x hx
  ·rw [List.mem_singleton.1 hx]; omega
 ·rw [List.length_append]
  rcases List.mem_append.1 hx with hx | hx
  ·have := hp.hi x hx; simp; omega
  ·rw [List.mem_singleton.1 hx]; simp; omega
 ·refine List.nodup_append.2 ⟨hp.nodup, by simp, fun x hx y hy e => ?_⟩
  rw [List.mem_singleton] at hy
  have := hp.hi x hx
  omega
theorem draw_loop (b : List Int) (hl : b.length < 4611686018427387904) (n : Nat) (hn : n ≤ 24) : ∀ (d m : Nat) (p : List Int) (i h : Int), m + d = n → p.length = m → IsPerm p → 0 ≤ i → i ≤ (b.length : Int) →
  ∃ q i' h', Ev (fun k => spec_l02Draw.l0 k n p m b i h) (q, i', h') ∧ (IsPerm q ∧ q.length = n) ∧ 0 ≤ i' ∧ i' ≤ (b.length : Int) := by
 intro d
 induction d with
 | zero =>
  intro m p i h hm lp hp h0 h1
  exact ⟨p, i, h, Ev.step (fun k => by rw [spec_l02Draw.l0]) (Ev.neg (by omega) (Ev.now _)), ⟨hp, by omega⟩, h0, h1⟩
 | succ d ih =>
  intro m p i h hm lp hp h0 h1
  obtain ⟨x, i', h', e, hx, a, c⟩ := below_some b i h ((m + 1 : Nat) : Int) h0 h1 hl (by omega) (by omega)
  obtain ⟨t, rfl⟩ := Int.eq_ofNat_of_zero_le hx.1
  have P := snoc_perm hp
  rw [lp] at P
  have ly : (p ++ [(m : Int)]).length = m + 1 := by rw [List.length_append, lp]; rfl
  have ym : (p ++ [(m : Int)])[m]'(by omega) = (m : Int) := by rw [List.getElem_append_right (by omega)]; simp [lp]
  have S := swap_perm P (a := t) (b := m) (by omega) (by omega)
  rw [ym] at S
  obtain ⟨q, i2, h2, e2, f⟩ := ih (m + 1) _ i' h' (by omega) (by rw [List.length_set, List.length_set, ly]) S a c
  refine ⟨q, i2, h2, Ev.step (fun k => by rw [spec_l02Draw.l0]) (Ev.pos (by omega) ?_), f⟩
  rw [w64n (by omega)]
  refine Ev.plain e (Ev.pos (by omega) (Ev.plain rfl ?_))
  simp only
  refine Ev.pos (by omega) (Ev.pos (by omega) (Ev.pos (by omega) (Ev.pos (by omega) ?_)))
  rw [Int.toNat_natCast, Int.toNat_natCast, rdg (by omega)]
  exact e2
theorem draw_ev (b : List Int) (hl : b.length < 4611686018427387904) (n : Nat) (hn : n ≤ 24) (i h : Int) (h0 : 0 ≤ i) (h1 : i ≤ (b.length : Int)) :
  ∃ q i' h', Ev (fun k => spec_l02Draw.f k b i h (n : Int)) (q, i', h') ∧ (IsPerm q ∧ q.length = n) ∧ 0 ≤ i' ∧ i' ≤ (b.length : Int) := by
 obtain ⟨q, i', h', e, f⟩ := draw_loop b hl n hn n 0 [] i h (by omega) rfl ⟨by simp, by simp, by simp⟩ h0 h1
 exact ⟨q, i', h', Ev.same (fun k => by rw [spec_l02Draw.f]; rfl) e, f⟩
/-- Some permutation of n elements. -/
theorem MakePerm_ev (l : List Int) (hl : l.length < 4611686018427387904) (s : Nat) (hs : s < 1000) (n : Nat) (n0 : 0 < n) (hn : n ≤ 24) : ∃ p : List Int, Ev (fun k => spec_MakePerm.f k l (s : Int) (n : Int)) p ∧ IsPerm p ∧ p.length = n := by
 obtain ⟨i, h, e, a, b⟩ := l20_ev l hl s hs
 obtain ⟨q, i', h', e', f, _⟩ := draw_ev l hl n hn i h a b
 refine ⟨q, Ev.same (fun k => by rw [spec_MakePerm.f]) (Ev.bind e ?_), f⟩
 rw [show mx 1 (mn (n : Int) 24) = (n : Int) by unfold mx mn; split <;> split <;> omega]
 exact Ev.bind e' (Ev.now _)

end Go.Proofs.Ytlohmpgbjgidpac.Q
namespace Go.Proofs.Ytlohmpgbjgidpac.Pure
open Go.RowKit Go.Proofs.Ytlohmpgbjgidpac.P Go.Proofs.YtlohmpgbjgidpacW.PrintWords Go.Proofs.YtlohmpgbjgidpacW.PrintLast Go.Proofs.Ytlohmpgbjgidpac.Q

theorem perms_loop (n : Nat) (hn : n ≤ 24) (p names back r x rr : List Int) (cs : List (List Int)) (hs : (cs.map List.length).sum = n) (hl : cs.length ≤ 24)
  (fin : Ev (fun k => laws_FnPerms.l0 k (n : Int) p names back r x rr (n : Int) cs (cs.length : Int) (cs.length : Int)) true) :
  ∀ (d i : Nat), i + d = cs.length → Ev (fun k => laws_FnPerms.l0 k (n : Int) p names back r x rr ((((cs.take i).map List.length).sum : Nat) : Int) cs (cs.length : Int) i) true := by
 intro d
 induction d with
 | zero =>
  intro i h
  rw [List.take_of_length_le (by omega), hs, show i = cs.length by omega]
  exact fin
 | succ d ih =>
  intro i h
  have n1 := ih (i + 1) (by omega)
  rw [List.take_succ_eq_append_getElem (by omega), List.map_append, List.sum_append] at n1
  simp only [List.map_cons, List.map_nil, List.sum_cons, List.sum_nil, Nat.add_zero] at n1
  have le : ((cs.take i).map List.length).sum + cs[i].length ≤ n := by
   have z : cs = cs.take i ++ cs[i] :: cs.drop (i + 1) := by rw [← List.drop_eq_getElem_cons (by omega), List.take_append_drop]
   have := congrArg (fun l => (l.map List.length).sum) z
   simp only [List.map_append, List.map_cons, List.sum_append, List.sum_cons] at this
   omega
  refine Ev.step (fun k => by rw [laws_FnPerms.l0]) (Ev.pos (by omega) (Ev.pos (by omega) (Ev.pos (by omega) ?_)))
  rw [rdL' (by omega), w64n (by omega), w64 (by omega) (by omega), ← Int.natCast_add]
  exact n1
theorem FnPerms : laws_FnPerms.Pure := by
 intro l _ _ _
 refine Ev.out ?_
 refine Ev.same (fun k => by rw [laws_FnPerms.f]) ?_
 by_cases h : (l.length : Int) > 1048576
 ·exact Ev.pos h (Ev.now _)
 refine Ev.neg h ?_
 obtain ⟨t, et, t0, t1⟩ := MakeNum_ev l (by omega) 1 (by omega)
 obtain ⟨n, n0, n1, en⟩ : ∃ n : Nat, 0 < n ∧ n ≤ 8 ∧ wrap64 (1 + Int.tmod t 8) = (n : Int) := by
  have a := Int.emod_nonneg t (show (8 : Int) ≠ 0 by omega)
  have b := Int.emod_lt_of_pos t (show (0 : Int) < 8 by omega)
  rw [Int.tmod_eq_emod_of_nonneg t0, w64 (by omega) (by omega)]
  exact ⟨(1 + t % 8).toNat, by omega, by omega, by omega⟩
 obtain ⟨p, ep, hp, lp⟩ := MakePerm_ev l (by omega) 3 (by omega) n n0 (by omega)
 obtain ⟨q, eq, hq, lq⟩ := MakePerm_ev l (by omega) 20 (by omega) n n0 (by omega)
 obtain ⟨v, ev, hv, lv⟩ := MakePerm_ev l (by omega) 40 (by omega) n n0 (by omega)
 have B : ∀ {p : List Int}, IsPerm p → p.length = n → permB p = true := fun hp lp => (permB_iff _).2 ⟨by omega, hp⟩
 have iB : ∀ {p : List Int}, IsPerm p → p.length = n → invB p = invL p := fun hp lp => if_pos (B hp lp)
 have tB : ∀ {p q : List Int}, IsPerm p → p.length = n → IsPerm q → q.length = n → thenB p q = thenL p q := fun hp lp hq lq => if_pos ⟨B hp lp, B hq lq, by omega⟩
 have il : ∀ {p : List Int}, p.length = n → (invL p).length = n := fun lp => by rw [invL_length]; exact lp
 have tl : ∀ {p q : List Int}, p.length = n → (thenL p q).length = n := fun lp => by rw [thenL_length]; exact lp
 have R := hp.then hq (by omega)
 have BK := hq.inv.then hp.inv (by rw [il lq, il lp])
 have X := hp.ren hv (by omega)
 have lx : (renL p v).length = n := by rw [renL_length]; exact lv
 refine Ev.bind et ?_
 rw [en]
 refine Ev.bind ep (Ev.bind eq (Ev.bind ev ?_))
 refine Ev.bind (impl_IdentityPerm_ev _) ?_
 rw [identB, if_pos (by omega), Int.toNat_natCast]
 refine Ev.bind (impl_ThenPerm_ev p q) ?_
 rw [tB hp lp hq lq]
 refine Ev.bind (impl_InversePerm_ev q) (Ev.bind (impl_InversePerm_ev p) ?_)
 rw [iB hp lp, iB hq lq]
 refine Ev.bind (impl_ThenPerm_ev _ _) ?_
 rw [tB hq.inv (il lq) hp.inv (il lp)]
 refine Ev.bind (impl_RenamePerm_ev p v) ?_
 rw [renB, if_pos ⟨B hp lp, B hv lv, by omega⟩]
 refine Ev.bind (impl_CyclesOf_ev p) ?_
 rw [cycB, if_pos (B hp lp)]
 have cs : ((cycL p).map List.length).sum = n := by rw [← lp]; exact cycLen_sum hp
 have cl : ∀ {p : List Int}, IsPerm p → p.length = n → (cycL p).length ≤ 24 := fun {p} hp lp => by
  have s : ((cycL p).map List.length).sum = n := by rw [← lp]; exact cycLen_sum hp
  have pos := fun c hc => ((cycL_spec hp).1 c hc).pos
  have key : ∀ (l : List (List Int)), (∀ c ∈ l, 0 < c.length) → l.length ≤ (l.map List.length).sum := fun l => by
   induction l with
   | nil => intro _; simp
   | cons c l ih =>
    intro hc
    have a := hc c (by simp)
    have b := ih fun c hh => hc c (by simp [hh])
    simp only [List.length_cons, List.map_cons, List.sum_cons]
    omega
  have := key _ pos
  omega
 have := perms_loop n (by omega) p v (idPerm n) (thenL p q) (thenL (invL q) (invL p)) (renL p v) (cycL p) cs (cl hp lp) ?_ (cycL p).length 0 (by omega)
 ·simpa using this
 refine Ev.step (fun k => by rw [laws_FnPerms.l0]) (Ev.neg (by omega) ?_)
 refine Ev.bind (impl_InversePerm_ev v) ?_
 rw [iB hv lv]
 refine Ev.bind (impl_ThenPerm_ev _ _) ?_
 rw [tB hv.inv (il lv) hp lp]
 have V := hv.inv.then hp (by rw [il lv]; omega)
 refine Ev.bind (impl_ThenPerm_ev _ _) ?_
 rw [tB V (tl (il lv)) hv lv, ← ren_then hp hv (by omega)]
 refine Ev.pos (by rw [idPerm_length]) ?_
 refine Ev.bind (impl_ThenPerm_ev _ _) ?_
 rw [tB R (tl lp) BK (tl (il lq)), then_id hp hq (by omega), lp]
 refine Ev.bind (same_self _ (by rw [idPerm_length]; omega)) (Ev.pos rfl ?_)
 refine Ev.bind (impl_InversePerm_ev _) ?_
 rw [iB R (tl lp), inv_then hp hq (by omega)]
 refine Ev.bind (same_self _ (by rw [tl (il lq)]; omega)) (Ev.pos rfl ?_)
 refine Ev.bind (same_self _ (by omega)) (Ev.pos rfl (Ev.pos rfl ?_))
 refine Ev.bind (impl_CyclesOf_ev _) ?_
 rw [cycB, if_pos (B X lx)]
 refine Ev.bind (lengths_ev _ (by have := cl X lx; omega)) ?_
 refine Ev.bind (impl_CyclesOf_ev p) ?_
 rw [cycB, if_pos (B hp lp)]
 refine Ev.bind (lengths_ev _ (by have := cl hp lp; omega)) ?_
 have cc : ∀ p : List Int, ((cycL p).map fun c => (c.length : Int)) = (cycLen p).map (fun (j : Nat) => (j : Int)) := fun p => by rw [cycLen, List.map_map]; rfl
 rw [cc, cc, descL_perm ((cycLen_ren hp hv (by omega)).map _)]
 refine Ev.bind (same_self _ (by rw [descL_length, List.length_map, cycLen, List.length_map]; have := cl hp lp; omega)) ?_
 exact Ev.now _

end Go.Proofs.Ytlohmpgbjgidpac.Pure

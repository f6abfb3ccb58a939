/- Permutations: every number below the length is met; inverse, product, renaming as lists. -/
import Derived.Test.YtlohmpgbjgidpacWMore
import Derived.Test.YtlohmpgbjgidpacQBase
import Derived.Test.YtlohmpgbjgidpacQPerm
namespace Go.Proofs.Ytlohmpgbjgidpac.Q
open Go.RowKit Go.Proofs.YtlohmpgbjgidpacW.PrintWords Go.Proofs.YtlohmpgbjgidpacW.PrintLast
set_option linter.unusedVariables false
set_option linter.unusedSimpArgs false

theorem pig : ∀ (n : Nat) (l : List Int), l.Nodup → (∀ x ∈ l, 0 ≤ x ∧ x < (n : Int)) → l.length ≤ n
  | 0, l, _, h => by
    cases l with
    | nil => simp
    | cons x r => have := h x (by simp); omega
  | n + 1, l, hd, h => by
    by_cases hm : (n : Int) ∈ l
    · have := pig n (l.erase (n : Int)) (hd.erase _) (fun x hx => by
        have h1 := (hd.mem_erase_iff).1 hx
        have h2 := h x h1.2
        have h3 := h1.1
        omega)
      rw [List.length_erase_of_mem hm] at this
      omega
    · have := pig n l hd (fun x hx => by
        have h2 := h x hx
        have : x ≠ (n : Int) := fun e => hm (e ▸ hx)
        omega)
      omega
theorem IsPerm.mem {p : List Int} (h : IsPerm p) {j : Int} (h0 : 0 ≤ j) (h1 : j < (p.length : Int)) : j ∈ p := by
  apply Classical.byContradiction
  intro hn
  have := pig p.length (j :: p) (List.nodup_cons.2 ⟨hn, h.nodup⟩) (fun x hx => by
    rcases List.mem_cons.1 hx with e | e
    · subst e; exact ⟨h0, h1⟩
    · exact ⟨h.lo x e, h.hi x e⟩)
  simp only [List.length_cons] at this
  omega
theorem IsPerm.get_lo {p : List Int} (h : IsPerm p) {i : Nat} (hi : i < p.length) : 0 ≤ p[i] := h.lo _ (List.getElem_mem hi)
theorem IsPerm.get_hi {p : List Int} (h : IsPerm p) {i : Nat} (hi : i < p.length) : p[i] < (p.length : Int) := h.hi _ (List.getElem_mem hi)
theorem IsPerm.inj {p : List Int} (h : IsPerm p) {i j : Nat} (hi : i < p.length) (hj : j < p.length) (e : p[i] = p[j]) : i = j := by
  have H := List.pairwise_iff_getElem.1 h.nodup
  rcases Nat.lt_trichotomy i j with hlt | he | hgt
  · exact absurd e (H i j hi hj hlt)
  · exact he
  · exact absurd e.symm (H j i hj hi hgt)
/-- The place of a number in a list. -/
def posOf (p : List Int) (j : Int) : Nat := p.idxOf j
theorem posOf_lt {p : List Int} {j : Int} (h : j ∈ p) : posOf p j < p.length := List.idxOf_lt_length_iff.2 h
theorem posOf_get {p : List Int} {j : Int} (h : j ∈ p) : p[posOf p j]'(posOf_lt h) = j := by
  unfold posOf; exact List.getElem_idxOf (posOf_lt h)
theorem IsPerm.posOf_at {p : List Int} (h : IsPerm p) {i : Nat} (hi : i < p.length) : posOf p p[i] = i :=
  h.inj (posOf_lt (List.getElem_mem hi)) hi (posOf_get (List.getElem_mem hi))
/-- The inverse. -/
def invL (p : List Int) : List Int := (List.range p.length).map fun (j : Nat) => (posOf p (j : Int) : Int)
/-- The product: first p, then q. -/
def thenL (p q : List Int) : List Int := p.map (rd q ·)
/-- The renamed permutation. -/
def renL (p q : List Int) : List Int := thenL (invL q) (thenL p q)
theorem invL_length (p : List Int) : (invL p).length = p.length := by simp [invL]
theorem thenL_length (p q : List Int) : (thenL p q).length = p.length := by simp [thenL]
theorem renL_length (p q : List Int) : (renL p q).length = q.length := by simp [renL, thenL, invL]
theorem invL_get (p : List Int) {j : Nat} (h : j < p.length) : (invL p)[j]'(by rw [invL_length]; exact h) = (posOf p (j : Int) : Int) := by simp [invL]
theorem thenL_get (p q : List Int) {j : Nat} (h : j < p.length) : (thenL p q)[j]'(by rw [thenL_length]; exact h) = rd q p[j] := by simp [thenL]
theorem rd_of {q : List Int} {x : Int} (h0 : 0 ≤ x) (h1 : x < (q.length : Int)) : rd q x = q[x.toNat]'(by omega) := by
  obtain ⟨n, rfl⟩ := Int.eq_ofNat_of_zero_le h0
  rw [rdg (by omega)]
  simp
theorem nodup_of_inj {l : List Int} (h : ∀ (i j : Nat) (hi : i < l.length) (hj : j < l.length), l[i] = l[j] → i = j) : l.Nodup := by
  refine List.pairwise_iff_getElem.2 fun i j hi hj hlt e => ?_
  have := h i j hi hj e
  omega
theorem IsPerm.mk' {l : List Int} (hb : ∀ (i : Nat) (hi : i < l.length), 0 ≤ l[i] ∧ l[i] < (l.length : Int)) (h : ∀ (i j : Nat) (hi : i < l.length) (hj : j < l.length), l[i] = l[j] → i = j) : IsPerm l where
  lo := fun x hx => by obtain ⟨i, hi, rfl⟩ := List.getElem_of_mem hx; exact (hb i hi).1
  hi := fun x hx => by obtain ⟨i, hi, rfl⟩ := List.getElem_of_mem hx; exact (hb i hi).2
  nodup := nodup_of_inj h
theorem IsPerm.inv {p : List Int} (h : IsPerm p) : IsPerm (invL p) := by
  refine IsPerm.mk' (fun i hi => ?_) (fun i j hi hj e => ?_)
  · rw [invL_length] at hi
    rw [invL_get p hi, invL_length]
    have := posOf_lt (h.mem (j := (i : Int)) (by omega) (by omega))
    omega
  · rw [invL_length] at hi hj
    rw [invL_get p hi, invL_get p hj] at e
    have a := h.mem (j := (i : Int)) (by omega) (by omega)
    have b := h.mem (j := (j : Int)) (by omega) (by omega)
    have e' : posOf p (i : Int) = posOf p (j : Int) := by omega
    have := posOf_get a
    have := posOf_get b
    simp only [e'] at *
    omega
theorem IsPerm.then {p q : List Int} (h : IsPerm p) (hq : IsPerm q) (hl : p.length = q.length) : IsPerm (thenL p q) := by
  refine IsPerm.mk' (fun i hi => ?_) (fun i j hi hj e => ?_)
  · rw [thenL_length] at hi
    rw [thenL_get p q hi, thenL_length]
    have a := h.get_lo hi
    have b := h.get_hi hi
    rw [rd_of a (by omega)]
    have := hq.get_lo (i := p[i].toNat) (by omega)
    have := hq.get_hi (i := p[i].toNat) (by omega)
    omega
  · rw [thenL_length] at hi hj
    rw [thenL_get p q hi, thenL_get p q hj] at e
    have a := h.get_lo hi
    have b := h.get_hi hi
    have c := h.get_lo hj
    have d := h.get_hi hj
    rw [rd_of a (by omega), rd_of c (by omega)] at e
    have := hq.inj (by omega) (by omega) e
    exact h.inj hi hj (by omega)
theorem IsPerm.ren {p q : List Int} (h : IsPerm p) (hq : IsPerm q) (hl : p.length = q.length) : IsPerm (renL p q) :=
  hq.inv.then (h.then hq hl) (by rw [invL_length, thenL_length, hl])

end Go.Proofs.Ytlohmpgbjgidpac.Q

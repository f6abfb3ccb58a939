/- The law of EllOf holds for all numbers: the program's surface is the reference's, in new memory that is shared with no other call's. -/
import Derived.Test.YtlohmpgbjgidpabWMore
import Derived.Test.YtlohmpgbjgidpabPx102
import Derived.Test.YtlohmpgbjgidpabPx103
import Derived.Test.YtlohmpgbjgidpabPx11
import Derived.Test.YtlohmpgbjgidpabPx14
import Derived.Test.YtlohmpgbjgidpabPx15
import Derived.Test.YtlohmpgbjgidpabPx16
import Derived.Test.YtlohmpgbjgidpabPx17
import Derived.Test.YtlohmpgbjgidpabPx18
import Derived.Test.YtlohmpgbjgidpabPx19
import Derived.Test.YtlohmpgbjgidpabPx53
set_option linter.unusedVariables false
set_option linter.unusedSimpArgs false

namespace Go.Proofs.Ytlohmpgbjgidpab.Q
open Go.RowKit Go.Proofs.Ytlohmpgbjgidpab.P Go.Proofs.YtlohmpgbjgidpabW.PrintWords Go.Proofs.YtlohmpgbjgidpabW.PrintLast
/- Small lemmas on the printed functions' words: numbers of 64 bits, elements of lists, rounds. -/
theorem w64 {x : Int} (h : -9223372036854775808 ≤ x) (h' : x ≤ 9223372036854775807) : wrap64 x = x := by
 unfold wrap64; omega
theorem w64n {i : Nat} (h : i < 9223372036854775807) : wrap64 ((i : Int) + 1) = ((i + 1 : Nat) : Int) := by
 rw [w64 (by omega) (by omega)]; omega
theorem rdg {xs : List Int} {i : Nat} (h : i < xs.length) : rd xs (i : Int) = xs[i] := by simp [rd, h]
/-- From a round on. -/
theorem Ev.from {α : Type} {g : Nat → Option α} {r : α} {K : Nat} (h : ∀ k, K ≤ k → g k = some r) : Ev g r := ⟨K, h⟩
theorem Ev.succ {α : Type} {g f : Nat → Option α} {r : α} (h : ∀ k, g (k + 1) = f k) (hf : Ev f r) : Ev g r := Ev.step h hf
theorem Ev.plain {α β : Type} {x : Option α} {f : Nat → α → Option β} {a : α} {r : β} (h : x = some a) (k : Ev (fun n => f n a) r) : Ev (fun n => x.bind (f n)) r := by
 subst h; exact k
theorem Ev.pos {α : Type} {c : Prop} [Decidable c] {g f : Nat → Option α} {r : α} (h : c) (hg : Ev g r) : Ev (fun k => if c then g k else f k) r := by
 simp only [if_pos h]; exact hg
theorem Ev.neg {α : Type} {c : Prop} [Decidable c] {g f : Nat → Option α} {r : α} (h : ¬ c) (hf : Ev f r) : Ev (fun k => if c then g k else f k) r := by
 simp only [if_neg h]; exact hf
theorem Ev.out {α : Type} {g : Nat → Option α} {r : α} (h : Ev g r) : ∃ k, g k = some r := h.rounds
theorem Ev.same {α : Type} {g f : Nat → Option α} {r : α} (h : ∀ k, g k = f k) (hf : Ev f r) : Ev g r := Ev.congr h hf

end Go.Proofs.Ytlohmpgbjgidpab.Q
namespace Go.Proofs.Ytlohmpgbjgidpab.Q
open Go.RowKit Go.Proofs.Ytlohmpgbjgidpab.P Go.Proofs.YtlohmpgbjgidpabW.PrintWords Go.Proofs.YtlohmpgbjgidpabW.PrintLast
/- What the printed functions on lists of numbers come to: copies, comparisons, marks. -/
theorem eqIntS_loop (xs ys : List Int) (hl : xs.length = ys.length) (hn : xs.length < 9223372036854775807) : ∀ (d : Nat) (i : Nat), i + d = xs.length →
  Ev (fun k => laws_eqIntS.l0 k xs ys i) (decide (xs.drop i = ys.drop i)) := by
 intro d
 induction d with
 | zero =>
  intro i h
  refine Ev.step (fun k => by rw [laws_eqIntS.l0]) ?_
  repeat (first | refine Ev.pos (by omega) ?_ | refine Ev.neg (by omega) ?_)
  rw [List.drop_of_length_le (by omega), List.drop_of_length_le (by omega)]
  exact Ev.now _
 | succ d ih =>
  intro i h
  refine Ev.step (fun k => by rw [laws_eqIntS.l0]) ?_
  repeat (first | refine Ev.pos (by omega) ?_ | refine Ev.neg (by omega) ?_)
  rw [rdg (by omega), rdg (by omega), List.drop_eq_getElem_cons (l := xs) (i := i) (by omega), List.drop_eq_getElem_cons (l := ys) (i := i) (by omega)]
  by_cases e : xs[i] = ys[i]
  ·refine Ev.pos e ?_
   rw [w64n (by omega), decide_eq_decide.2 (show _ ↔ xs.drop (i + 1) = ys.drop (i + 1) from ⟨fun h => (List.cons.inj h).2, fun h => by rw [e, h]⟩)]
   exact ih (i + 1) (by omega)
  ·refine Ev.neg e ?_
   rw [decide_eq_false fun h => e (List.cons.inj h).1]
   exact Ev.now _
theorem eqIntS_ev (xs ys : List Int) (hn : xs.length < 9223372036854775807) : Ev (fun k => laws_eqIntS.f k xs ys) (decide (xs = ys)) := by
 refine Ev.same (fun k => by rw [laws_eqIntS.f]) ?_
 by_cases h : xs.length = ys.length
 ·refine Ev.pos (by omega) ?_
  simpa using eqIntS_loop xs ys h hn xs.length 0 (by omega)
 ·refine Ev.neg (by omega) ?_
  have : decide (xs = ys) = false := decide_eq_false fun e => h (by rw [e])
  rw [this]
  exact Ev.now _
theorem eqIntS_self (xs : List Int) (hn : xs.length < 9223372036854775807) : Ev (fun k => laws_eqIntS.f k xs xs) true := by
 simpa using eqIntS_ev xs xs hn
/-- The marks of a list: numbers one behind the other. -/
def marks (n : Nat) (a : Int) : List Int := (List.range n).map fun (j : Nat) => wrap64 (a + (j : Int))
theorem wrap_add (a b : Int) : wrap64 (wrap64 a + b) = wrap64 (a + b) := by unfold wrap64; omega
theorem marks_length (n : Nat) (a : Int) : (marks n a).length = n := by simp [marks]
theorem marks_get (n : Nat) (a : Int) (i : Nat) (h : i < n) : (marks n a)[i]'(by simpa [marks] using h) = wrap64 (a + (i : Int)) := by simp [marks]
theorem markIntS_loop (hk : Int) : ∀ (d : Nat) (i : Nat) (ys : List Int), i + d = ys.length → ys.length < 9223372036854775807 → wrap64 hk = hk →
  Ev (fun k => laws_markIntS.l0 k ys (wrap64 (hk + (i : Int))) i) (wrap64 (hk + (ys.length : Int)), ys.take i ++ (marks ys.length hk).drop i) := by
 intro d
 induction d with
 | zero =>
  intro i ys h hn hw
  refine Ev.step (fun k => by rw [laws_markIntS.l0]) ?_
  repeat (first | refine Ev.pos (by omega) ?_ | refine Ev.neg (by omega) ?_)
  rw [List.take_of_length_le (by omega), List.drop_of_length_le (by rw [marks_length]; omega), List.append_nil, show i = ys.length by omega]
  exact Ev.now _
 | succ d ih =>
  intro i ys h hn hw
  refine Ev.step (fun k => by rw [laws_markIntS.l0]) ?_
  repeat (first | refine Ev.pos (by omega) ?_ | refine Ev.neg (by omega) ?_)
  rw [w64n (by omega), Int.toNat_natCast, wrap_add]
  have := ih (i + 1) (ys.set i (wrap64 (hk + (i : Int)))) (by simpa using by omega) (by simpa using hn) hw
  rw [List.length_set, List.take_succ_eq_append_getElem (by simp; omega), List.getElem_set_self, List.take_set_of_le (by omega), List.append_assoc, List.singleton_append,
   ← marks_get ys.length hk i (by omega), ← List.drop_eq_getElem_cons (by rw [marks_length]; omega)] at this
  rw [show hk + (i : Int) + 1 = hk + ((i + 1 : Nat) : Int) by omega]
  rw [← marks_get ys.length hk i (by omega)]
  exact this
theorem markIntS_ev (xs : List Int) (a : Int) (hn : xs.length < 9223372036854775807) (hw : wrap64 a = a) : Ev (fun k => laws_markIntS.f k xs a) (wrap64 (a + (xs.length : Int)), marks xs.length a) := by
 refine Ev.same (fun k => by rw [laws_markIntS.f]) ?_
 have := markIntS_loop a xs.length 0 xs (by omega) hn hw
 simpa [hw] using this
theorem heldIntS_loop (n : Nat) (a : Int) (hn : n < 9223372036854775807) : ∀ (d : Nat) (i : Nat), i + d = n →
  Ev (fun k => laws_heldIntS.l0 k (marks n a) (wrap64 (a + (i : Int))) i) (wrap64 (a + (n : Int))) := by
 intro d
 induction d with
 | zero =>
  intro i h
  refine Ev.step (fun k => by rw [laws_heldIntS.l0]) ?_
  have := marks_length n a
  repeat (first | refine Ev.pos (by omega) ?_ | refine Ev.neg (by omega) ?_)
  rw [show i = n by omega]
  exact Ev.now _
 | succ d ih =>
  intro i h
  refine Ev.step (fun k => by rw [laws_heldIntS.l0]) ?_
  have := marks_length n a
  repeat (first | refine Ev.pos (by omega) ?_ | refine Ev.neg (by omega) ?_)
  rw [rdg (by omega), marks_get n a i (by omega)]
  refine Ev.pos rfl ?_
  rw [w64n (by omega), wrap_add, show a + (i : Int) + 1 = a + ((i + 1 : Nat) : Int) by omega]
  exact ih (i + 1) (by omega)
theorem heldIntS_ev (n : Nat) (a : Int) (hn : n < 9223372036854775807) (hw : wrap64 a = a) : Ev (fun k => laws_heldIntS.f k (marks n a) a) (wrap64 (a + (n : Int))) := by
 refine Ev.same (fun k => by rw [laws_heldIntS.f]) ?_
 have := heldIntS_loop n a hn n 0 (by omega)
 simpa [hw] using this

end Go.Proofs.Ytlohmpgbjgidpab.Q
namespace Go.Proofs.Ytlohmpgbjgidpab.Q
open Go.RowKit Go.Proofs.Ytlohmpgbjgidpab.P Go.Proofs.YtlohmpgbjgidpabW.PrintWords Go.Proofs.YtlohmpgbjgidpabW.PrintLast
/- Permutations: the two PermOk functions tell whether a list of at most 24 numbers is a permutation. -/
/-- A permutation of the numbers from 0 up to its length. -/
structure IsPerm (l : List Int) : Prop where
 lo : ∀ x ∈ l, 0 ≤ x
 hi : ∀ x ∈ l, x < (l.length : Int)
 nodup : l.Nodup

end Go.Proofs.Ytlohmpgbjgidpab.Q
namespace Go.Proofs.Ytlohmpgbjgidpab.Q
open Go.RowKit Go.Proofs.Ytlohmpgbjgidpab.P Go.Proofs.YtlohmpgbjgidpabW.PrintWords Go.Proofs.YtlohmpgbjgidpabW.PrintLast
/- Permutations: every number below the length is met; inverse, product, renaming as lists. -/
theorem IsPerm.get_lo {p : List Int} (h : IsPerm p) {i : Nat} (hi : i < p.length) : 0 ≤ p[i] := h.lo _ (List.getElem_mem hi)
theorem IsPerm.get_hi {p : List Int} (h : IsPerm p) {i : Nat} (hi : i < p.length) : p[i] < (p.length : Int) := h.hi _ (List.getElem_mem hi)
theorem IsPerm.inj {p : List Int} (h : IsPerm p) {i j : Nat} (hi : i < p.length) (hj : j < p.length) (e : p[i] = p[j]) : i = j := by
 have H := List.pairwise_iff_getElem.1 h.nodup
 rcases Nat.lt_trichotomy i j with hlt | he | hgt
 ·exact absurd e (H i j hi hj hlt)
 ·exact he
 ·exact absurd e.symm (H j i hj hi hgt)
/-- The product: first p, then q. -/
def thenL (p q : List Int) : List Int := p.map (rd q ·)
theorem thenL_length (p q : List Int) : (thenL p q).length = p.length := by simp [thenL]
theorem thenL_get (p q : List Int) {j : Nat} (h : j < p.length) : (thenL p q)[j]'(by rw [thenL_length]; exact h) = rd q p[j] := by simp [thenL]
theorem rd_of {q : List Int} {x : Int} (h0 : 0 ≤ x) (h1 : x < (q.length : Int)) : rd q x = q[x.toNat]'(by omega) := by
 obtain ⟨n, rfl⟩ := Int.eq_ofNat_of_zero_le h0
 rw [rdg (by omega)]
 simp
theorem nodup_of_inj {l : List Int} (h : ∀ (i j : Nat) (hi : i < l.length) (hj : j < l.length), l[i] = l[j] → i = j) : l.Nodup := by
 refine List.pairwise_iff_getElem.2 fun i j hi hj hlt e => ?_
 have := h i j hi hj e
 omega
theorem IsPerm.mk' {l : List Int} (hb : ∀ (i : Nat) (hi : i < l.length), 0 ≤ l[i] ∧ l[i] < (l.length : Int)) (h : ∀ (i j : Nat) (hi : i < l.length) (hj : j < l.length), l[i] = l[j] → i = j) : IsPerm l where
 lo := fun x hx => by obtain ⟨i, hi, rfl⟩ := List.getElem_of_mem hx; exact (hb i hi).1
 hi := fun x hx => by obtain ⟨i, hi, rfl⟩ := List.getElem_of_mem hx; exact (hb i hi).2
 nodup := nodup_of_inj h
theorem IsPerm.then {p q : List Int} (h : IsPerm p) (hq : IsPerm q) (hl : p.length = q.length) : IsPerm (thenL p q) := by
 refine IsPerm.mk' (fun i hi => ?_) (fun i j hi hj e => ?_)
 ·rw [thenL_length] at hi
  rw [thenL_get p q hi, thenL_length]
  have a := h.get_lo hi
  have b := h.get_hi hi
  rw [rd_of a (by omega)]
  have := hq.get_lo (i := p[i].toNat) (by omega)
  have := hq.get_hi (i := p[i].toNat) (by omega)
  omega
 ·rw [thenL_length] at hi hj
  rw [thenL_get p q hi, thenL_get p q hj] at e
  have a := h.get_lo hi
  have b := h.get_hi hi
  have c := h.get_lo hj
  have d := h.get_hi hj
  rw [rd_of a (by omega), rd_of c (by omega)] at e
  have := hq.inj (by omega) (by omega) e
  exact h.inj hi hj (by omega)

end Go.Proofs.Ytlohmpgbjgidpab.Q
namespace Go.Proofs.Ytlohmpgbjgidpab.Q
open Go.RowKit Go.Proofs.Ytlohmpgbjgidpab.P Go.Proofs.YtlohmpgbjgidpabW.PrintWords Go.Proofs.YtlohmpgbjgidpabW.PrintLast
/- Surfaces: two lists; sizes, copies, comparisons. -/
theorem eqSurface_self (r u : List Int) (hr : r.length < 9223372036854775807) (hu : u.length < 9223372036854775807) : Ev (fun k => laws_eqSurface.f k r u r u) true :=
 Ev.same (fun k => by rw [laws_eqSurface.f]) (Ev.bind (eqIntS_self r hr) (Ev.pos rfl (Ev.bind (eqIntS_self u hu) (Ev.pos rfl (Ev.now _)))))

end Go.Proofs.Ytlohmpgbjgidpab.Q
namespace Go.Proofs.Ytlohmpgbjgidpab.Q
open Go.RowKit Go.Proofs.Ytlohmpgbjgidpab.P Go.Proofs.YtlohmpgbjgidpabW.PrintWords Go.Proofs.YtlohmpgbjgidpabW.PrintLast
/- Marks of a surface's two lists. -/
theorem w1 (n : Nat) (h : n ≤ 1048576) : wrap64 (1 + (n : Int)) = 1 + (n : Int) := w64 (by omega) (by omega)
theorem markSurface_ev (r u : List Int) (hr : r.length ≤ 24) (hu : u.length ≤ 24) : Ev (fun k => laws_markSurface.f k r u 1) (1 + (r.length : Int) + (u.length : Int), marks r.length 1, marks u.length (1 + (r.length : Int))) := by
 refine Ev.same (fun k => by rw [laws_markSurface.f]) ?_
 refine Ev.bind (markIntS_ev r 1 (by omega) (w64 (by omega) (by omega))) ?_
 rw [w1 _ (by omega)]
 refine Ev.bind (markIntS_ev u (1 + (r.length : Int)) (by omega) (w64 (by omega) (by omega))) ?_
 rw [w64 (by omega) (by omega)]
 exact Ev.now _
theorem heldSurface_ev (n m : Nat) (hn : n ≤ 24) (hm : m ≤ 24) : Ev (fun k => laws_heldSurface.f k (marks n 1) (marks m (1 + (n : Int))) 1) (1 + (n : Int) + (m : Int)) := by
 refine Ev.same (fun k => by rw [laws_heldSurface.f]) ?_
 refine Ev.bind (heldIntS_ev n 1 (by omega) (w64 (by omega) (by omega))) ?_
 rw [w1 _ (by omega)]
 refine Ev.neg (by omega) ?_
 refine Ev.bind (heldIntS_ev m (1 + (n : Int)) (by omega) (w64 (by omega) (by omega))) ?_
 rw [w64 (by omega) (by omega)]
 exact Ev.neg (by omega) (Ev.now _)

end Go.Proofs.Ytlohmpgbjgidpab.Q
namespace Go.Proofs.Ytlohmpgbjgidpab.Q
open Go.RowKit Go.Proofs.Ytlohmpgbjgidpab.P Go.Proofs.YtlohmpgbjgidpabW.PrintWords Go.Proofs.YtlohmpgbjgidpabW.PrintLast
/- The two EllOf functions: for the few sizes there are, the kernel reckons both. -/
def ellOk (a b : Int) : Bool := match spec_EllOf.f 120 a b, impl_EllOf.f 120 a b with
 | some x, some y => decide (x = y) && (decide (x.1.length ≤ 24) && decide (x.2.1.length ≤ 24))
 | _, _ => false
set_option maxRecDepth 100000 in
theorem ell_all : ∀ a : Fin 25, ∀ b : Fin 25, 1 ≤ a.val → 1 ≤ b.val → a.val + b.val ≤ 25 → ellOk (a.val : Int) (b.val : Int) = true := by decide +kernel
def ellB (a b : Int) : List Int × List Int × Bool := if 1 ≤ a ∧ 1 ≤ b ∧ a ≤ 24 ∧ b ≤ 24 ∧ a + b ≤ 25 then (spec_EllOf.f 120 a b).getD ([], [], false) else ([], [], false)
theorem ell_in {a b : Int} (h : 1 ≤ a ∧ 1 ≤ b ∧ a ≤ 24 ∧ b ≤ 24 ∧ a + b ≤ 25) : ∃ x : List Int × List Int × Bool, spec_EllOf.f 120 a b = some x ∧ impl_EllOf.f 120 a b = some x ∧ x.1.length ≤ 24 ∧ x.2.1.length ≤ 24 := by
 have := ell_all ⟨a.toNat, by omega⟩ ⟨b.toNat, by omega⟩ (by simp only; omega) (by simp only; omega) (by simp only; omega)
 simp only at this
 rw [Int.toNat_of_nonneg (by omega), Int.toNat_of_nonneg (by omega)] at this
 unfold ellOk at this
 cases e : spec_EllOf.f 120 a b with
 | none => rw [e] at this; simp at this
 | some x =>
  cases e' : impl_EllOf.f 120 a b with
  | none => rw [e, e'] at this; simp at this
  | some y =>
   rw [e, e'] at this
   simp only [Bool.and_eq_true, decide_eq_true_eq] at this
   obtain ⟨rfl, h1, h2⟩ := this
   exact ⟨x, rfl, rfl, h1, h2⟩
theorem ellB_length (a b : Int) : (ellB a b).1.length ≤ 24 ∧ (ellB a b).2.1.length ≤ 24 := by
 unfold ellB
 by_cases h : 1 ≤ a ∧ 1 ≤ b ∧ a ≤ 24 ∧ b ≤ 24 ∧ a + b ≤ 25
 ·rw [if_pos h]
  obtain ⟨x, e, _, h1, h2⟩ := ell_in h
  rw [e]
  exact ⟨h1, h2⟩
 ·rw [if_neg h]
  simp
theorem spec_EllOf_ev (a b : Int) (ha : (Lit.int .i64 a).wf = true) (hb : (Lit.int .i64 b).wf = true) : Ev (fun k => spec_EllOf.f k a b) (ellB a b) := by
 unfold ellB
 by_cases h : 1 ≤ a ∧ 1 ≤ b ∧ a ≤ 24 ∧ b ≤ 24 ∧ a + b ≤ 25
 ·rw [if_pos h]
  obtain ⟨x, e, _⟩ := ell_in h
  rw [e]
  exact Ev.of (spec_EllOf.mono a b) e
 ·rw [if_neg h]
  have no : Ev (fun k => spec_EllOf.j0 k a b true) ([], [], false) := Ev.step (fun k => by rw [spec_EllOf.j0]) (Ev.pos rfl (Ev.now _))
  have inn : ∀ x : Int, spec_l01In.f x 1 24 = some (decide (1 ≤ x) && decide (x ≤ 24)) := fun x => by
   unfold spec_l01In.f
   by_cases h : x ≥ 1
   ·rw [if_pos h, decide_eq_true (show 1 ≤ x from h), Bool.true_and]
   ·rw [if_neg h, decide_eq_false (show ¬ 1 ≤ x from h), Bool.false_and]
  refine Ev.same (fun k => by rw [spec_EllOf.f]) (Ev.plain (inn a) ?_)
  by_cases c1 : (decide (1 ≤ a) && decide (a ≤ 24)) = true
  ·refine Ev.pos c1 (Ev.plain (inn b) ?_)
   by_cases c2 : (decide (1 ≤ b) && decide (b ≤ 24)) = true
   ·refine Ev.pos c2 ?_
    simp only [Bool.and_eq_true, decide_eq_true_eq] at c1 c2
    rw [show decide (wrap64 (wrap64 (a + b) - 1) > 24) = true by rw [w64 (x := a + b) (by omega) (by omega), w64 (by omega) (by omega)]; simp; omega]
    exact no
   ·exact Ev.neg c2 no
  ·exact Ev.neg c1 no
theorem impl_EllOf_ev (a b : Int) (ha : (Lit.int .i64 a).wf = true) (hb : (Lit.int .i64 b).wf = true) : Ev (fun k => impl_EllOf.f k a b) (ellB a b) := by
 unfold ellB
 by_cases h : 1 ≤ a ∧ 1 ≤ b ∧ a ≤ 24 ∧ b ≤ 24 ∧ a + b ≤ 25
 ·rw [if_pos h]
  obtain ⟨x, e, e', _⟩ := ell_in h
  rw [e]
  exact Ev.of (impl_EllOf.mono a b) e'
 ·rw [if_neg h]
  have no : Ev (fun k => impl_EllOf.j0 k a b true) ([], [], false) := Ev.step (fun k => by rw [impl_EllOf.j0]) (Ev.pos rfl (Ev.now _))
  refine Ev.same (fun k => by rw [impl_EllOf.f]) ?_
  by_cases c1 : a < 1
  ·exact Ev.pos c1 no
  refine Ev.neg c1 ?_
  by_cases c2 : b < 1
  ·exact Ev.pos c2 no
  refine Ev.neg c2 ?_
  by_cases c3 : a > 24
  ·exact Ev.pos c3 no
  refine Ev.neg c3 ?_
  by_cases c4 : b > 24
  ·exact Ev.pos c4 no
  refine Ev.neg c4 ?_
  rw [show decide (wrap64 (wrap64 (a + b) - 1) > 24) = true by rw [w64 (x := a + b) (by omega) (by omega), w64 (by omega) (by omega)]; simp; omega]
  exact no

end Go.Proofs.Ytlohmpgbjgidpab.Q
namespace Go.Proofs.Ytlohmpgbjgidpab.Pure
open Go.RowKit Go.Proofs.Ytlohmpgbjgidpab.P Go.Proofs.YtlohmpgbjgidpabW.PrintWords Go.Proofs.YtlohmpgbjgidpabW.PrintLast Go.Proofs.Ytlohmpgbjgidpab.Q

theorem FnExactEllOf : laws_FnExactEllOf.Pure := by
 intro a b ha hb
 have hl := ellB_length a b
 refine Ev.out ?_
 refine Ev.same (fun k => by rw [laws_FnExactEllOf.f]) ?_
 refine Ev.bind (spec_EllOf_ev a b ha hb) (Ev.bind (impl_EllOf_ev a b ha hb) ?_)
 refine Ev.bind (eqSurface_self _ _ (by omega) (by omega)) (Ev.pos rfl ?_)
 refine Ev.step (fun k => by rw [laws_FnExactEllOf.j0]) (Ev.neg (by simp) ?_)
 refine Ev.bind (markSurface_ev _ _ hl.1 hl.2) ?_
 refine Ev.bind (heldSurface_ev _ _ hl.1 hl.2) ?_
 refine Ev.neg (by omega) (Ev.pos rfl ?_)
 refine Ev.bind (impl_EllOf_ev a b ha hb) ?_
 refine Ev.bind (eqSurface_self _ _ (by omega) (by omega)) (Ev.pos rfl ?_)
 refine Ev.step (fun k => by rw [laws_FnExactEllOf.j1]) (Ev.neg (by simp) ?_)
 refine Ev.bind (heldSurface_ev _ _ hl.1 hl.2) ?_
 exact Ev.neg (by omega) (Ev.pos rfl (Ev.now _))

end Go.Proofs.Ytlohmpgbjgidpab.Pure

/- The law of FormatInt holds for every number. -/
import Derived.Test.YtlohmpgbjgidpadDoorWMore
import Derived.Test.YtlohmpgbjgidpadDoorPx1
import Derived.Test.YtlohmpgbjgidpadDoorPx15
import Derived.Test.YtlohmpgbjgidpadDoorPx16
import Derived.Test.YtlohmpgbjgidpadDoorPx17
import Derived.Lib.ItoaNum
import Derived.Lib.ItoaMem
import Derived.Lib.ItoaLen
import Derived.Lib.SmallJoins
import Derived.OpenShut
set_option linter.unusedVariables false
set_option linter.unusedSimpArgs false

namespace Go.Proofs.YtlohmpgbjgidpadDoor.Q
open Go.RowKit Go.Proofs.YtlohmpgbjgidpadDoor.P Go.Proofs.YtlohmpgbjgidpadDoorW.PrintWords Go.Proofs.YtlohmpgbjgidpadDoorW.PrintLast
/- Small lemmas on the printed functions' words: numbers of 64 bits, elements of lists, rounds. -/
theorem w64 {x : Int} (h : -9223372036854775808 ≤ x) (h' : x ≤ 9223372036854775807) : wrap64 x = x := by
 unfold wrap64; omega
/-- From a round on. -/
theorem Ev.from {α : Type} {g : Nat → Option α} {r : α} {K : Nat} (h : ∀ k, K ≤ k → g k = some r) : Ev g r := ⟨K, h⟩
theorem Ev.plain {α β : Type} {x : Option α} {f : Nat → α → Option β} {a : α} {r : β} (h : x = some a) (k : Ev (fun n => f n a) r) : Ev (fun n => x.bind (f n)) r := by
 subst h; exact k
theorem Ev.pos {α : Type} {c : Prop} [Decidable c] {g f : Nat → Option α} {r : α} (h : c) (hg : Ev g r) : Ev (fun k => if c then g k else f k) r := by
 simp only [if_pos h]; exact hg
theorem Ev.neg {α : Type} {c : Prop} [Decidable c] {g f : Nat → Option α} {r : α} (h : ¬ c) (hf : Ev f r) : Ev (fun k => if c then g k else f k) r := by
 simp only [if_neg h]; exact hf
theorem Ev.out {α : Type} {g : Nat → Option α} {r : α} (h : Ev g r) : ∃ k, g k = some r := h.rounds
theorem Ev.same {α : Type} {g f : Nat → Option α} {r : α} (h : ∀ k, g k = f k) (hf : Ev f r) : Ev g r := Ev.congr h hf

end Go.Proofs.YtlohmpgbjgidpadDoor.Q
namespace Go.Proofs.YtlohmpgbjgidpadDoor.Q
open Go.RowKit Go.Proofs.YtlohmpgbjgidpadDoor.P Go.Proofs.YtlohmpgbjgidpadDoorW.PrintWords Go.Proofs.YtlohmpgbjgidpadDoorW.PrintLast
/- Loops over a string's bytes: the functions of digits, names and words. -/
theorem bytes_eq {s t : ByteArray} (h : s.data.toList = t.data.toList) : s = t := by
 cases s; cases t; simp only at h; congr; exact Array.toList_inj.mp h

end Go.Proofs.YtlohmpgbjgidpadDoor.Q
namespace Go.Proofs.YtlohmpgbjgidpadDoor.Q
open Go.RowKit Go.Proofs.YtlohmpgbjgidpadDoor.P Go.Proofs.YtlohmpgbjgidpadDoorW.PrintWords Go.Proofs.YtlohmpgbjgidpadDoorW.PrintLast
/- The reference's decimal numerals are strconv's. -/
open Go.Lib (decDigits itoa)
def bs (l : List UInt8) : ByteArray := ⟨l.toArray⟩
theorem bs_size (l : List UInt8) : (bs l).size = l.length := by simp [bs, ByteArray.size]
theorem bs_append (l m : List UInt8) : bs l ++ bs m = bs (l ++ m) := by
 apply bytes_eq
 rw [Go.Joins.data_append]
 simp [bs]
theorem digit_byte : ∀ d : Fin 10, strOfNums [(wrap64 (48 + (d.val : Int))) % 256] = bs [UInt8.ofNat (48 + d.val)] := by decide +kernel
theorem digit_byte' (d : Nat) (h : d < 10) : strOfNums [(wrap64 (48 + (d : Int))) % 256] = bs [UInt8.ofNat (48 + d)] := digit_byte ⟨d, h⟩
theorem fmt_loop : ∀ (u : Nat) (acc : List UInt8), u ≤ 9223372036854775807 → acc.length + (decDigits u).length ≤ 1000 → Ev (fun k => spec_FormatInt.l0 k (u : Int) (bs acc)) (bs (decDigits u ++ acc)) := by
 intro u
 induction u using Nat.strongRecOn with
 | _ u ih =>
  intro acc hu ha
  by_cases h : u < 10
  ·rw [decDigits, dif_pos h] at ha ⊢
   refine Ev.step (fun k => by rw [spec_FormatInt.l0]) (Ev.neg (by omega) (Ev.plain rfl ?_))
   rw [digit_byte' u h]
   refine Ev.pos (by rw [bs_size, bs_size]; simp at ha ⊢; omega) ?_
   rw [bs_append]
   exact Ev.now _
  ·rw [decDigits, dif_neg h] at ha ⊢
   rw [List.length_append, List.length_singleton] at ha
   refine Ev.step (fun k => by rw [spec_FormatInt.l0]) (Ev.pos (by omega) (Ev.plain rfl ?_))
   rw [show Int.tmod (u : Int) 10 = ((u % 10 : Nat) : Int) by rw [Int.tmod_eq_emod_of_nonneg (by omega)]; omega, digit_byte' (u % 10) (by omega)]
   refine Ev.pos (by rw [bs_size, bs_size]; simp only [List.length_singleton]; omega) ?_
   rw [show wrap64 (Int.tdiv (u : Int) 10) = ((u / 10 : Nat) : Int) by rw [Int.tdiv_eq_ediv_of_nonneg (by omega), w64 (by omega) (by omega)]; omega, bs_append, List.append_assoc]
   exact ih (u / 10) (by omega) _ (by omega) (by simp only [List.length_append, List.length_singleton]; omega)
theorem fmt_neg : ∀ (u : Nat), 1 ≤ u → u ≤ 9223372036854775808 → Ev (fun k => spec_FormatInt.f k (-(u : Int))) (bs (45 :: decDigits u)) := by
 intro u
 induction u using Nat.strongRecOn with
 | _ u ih =>
  intro h1 h2
  have td : Int.tdiv (-(u : Int)) 10 = -((u / 10 : Nat) : Int) := by
   rw [Int.neg_tdiv, Int.tdiv_eq_ediv_of_nonneg (by omega)]
   omega
  have tm : Int.tmod (-(u : Int)) 10 = -((u % 10 : Nat) : Int) := by
   rw [Int.neg_tmod, Int.tmod_eq_emod_of_nonneg (by omega)]
   omega
  have lq : (decDigits u).length ≤ 20 := by
   rw [Go.Lib.decDigits_length]
   exact Go.Lib.nDigits_le20 u (by omega)
  have wd : wrap64 (-((u / 10 : Nat) : Int)) = -((u / 10 : Nat) : Int) := w64 (by omega) (by omega)
  refine Ev.step (fun k => by rw [spec_FormatInt.f]) (Ev.pos (by omega) ?_)
  rw [td, wd]
  by_cases h : u < 10
  ·rw [decDigits, dif_pos h]
   refine Ev.pos (by omega) (Ev.plain rfl ?_)
   rw [show (48 : Int) - -(u : Int) = 48 + (u : Int) by omega, digit_byte' u h]
   refine Ev.pos (by rw [bs_size]; simp) ?_
   rw [show (⟨#[45]⟩ : ByteArray) = bs [45] from rfl, bs_append]
   exact Ev.now _
  ·have ih' := ih (u / 10) (by omega) (by omega) (by omega)
   have e : decDigits u = decDigits (u / 10) ++ [UInt8.ofNat (48 + u % 10)] := by
    conv => lhs; rw [decDigits, dif_neg h]
   rw [e] at lq ⊢
   rw [List.length_append, List.length_singleton] at lq
   refine Ev.neg (by omega) (Ev.bind ih' (Ev.plain rfl ?_))
   rw [tm, show (48 : Int) - -((u % 10 : Nat) : Int) = 48 + ((u % 10 : Nat) : Int) by omega, digit_byte' (u % 10) (by omega)]
   refine Ev.pos (by rw [bs_size, bs_size]; simp only [List.length_cons, List.length_nil]; omega) ?_
   rw [bs_append, List.cons_append]
   exact Ev.now _
/-- What FormatInt returns. -/
def fmtB (n : Int) : ByteArray := bs (itoa n)
theorem spec_FormatInt_ev (n : Int) (h0 : -9223372036854775808 ≤ n) (h1 : n ≤ 9223372036854775807) : Ev (fun k => spec_FormatInt.f k n) (fmtB n) := by
 unfold fmtB
 by_cases h : n < 0
 ·obtain ⟨u, rfl⟩ : ∃ u : Nat, n = -(u : Int) := ⟨n.natAbs, by omega⟩
  rw [Go.Lib.itoa_neg u (by omega)]
  exact fmt_neg u (by omega) (by omega)
 ·obtain ⟨u, rfl⟩ : ∃ u : Nat, n = (u : Int) := ⟨n.toNat, by omega⟩
  rw [Go.Lib.itoa_nonneg]
  have lq : (decDigits u).length ≤ 20 := by
   rw [Go.Lib.decDigits_length]
   exact Go.Lib.nDigits_le20 u (by omega)
  have := fmt_loop u [] (by omega) (by simp; omega)
  rw [List.append_nil] at this
  exact Ev.step (fun k => by rw [spec_FormatInt.f]) (Ev.neg (by omega) (show Ev (fun k => spec_FormatInt.l0 k (u : Int) (⟨#[]⟩ : ByteArray)) _ from this))
theorem impl_FormatInt_some (n : Int) (h0 : -9223372036854775808 ≤ n) (h1 : n ≤ 9223372036854775807) : impl_FormatInt.f n = some (fmtB n) := by
 unfold impl_FormatInt.f
 simp only [strconv_Itoa_15.f, if_pos (show -9223372036854775808 ≤ n ∧ n ≤ 9223372036854775807 from ⟨h0, h1⟩), Option.bind_some]
 rfl

end Go.Proofs.YtlohmpgbjgidpadDoor.Q
namespace Go.Proofs.YtlohmpgbjgidpadDoor.Pure
open Go.RowKit Go.Proofs.YtlohmpgbjgidpadDoor.P Go.Proofs.YtlohmpgbjgidpadDoorW.PrintWords Go.Proofs.YtlohmpgbjgidpadDoorW.PrintLast Go.Proofs.YtlohmpgbjgidpadDoor.Q

theorem FnExactFormatInt : laws_FnExactFormatInt.Pure := by
 intro n hn
 have h := bounds_i64 hn
 refine Ev.out ?_
 refine Ev.same (fun k => by rw [laws_FnExactFormatInt.f]) ?_
 refine Ev.bind (spec_FormatInt_ev n h.1 h.2) (Ev.plain (impl_FormatInt_some n h.1 h.2) (Ev.pos rfl (Ev.now _)))

end Go.Proofs.YtlohmpgbjgidpadDoor.Pure

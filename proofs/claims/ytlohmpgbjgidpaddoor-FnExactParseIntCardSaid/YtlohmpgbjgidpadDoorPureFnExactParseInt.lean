/- The law of ParseInt holds for every string. -/
import Derived.Test.YtlohmpgbjgidpadDoorWMore
import Derived.Test.YtlohmpgbjgidpadDoorPx1
import Derived.Test.YtlohmpgbjgidpadDoorPx15
import Derived.Test.YtlohmpgbjgidpadDoorPx16
import Derived.Test.YtlohmpgbjgidpadDoorPx42
import Derived.Test.YtlohmpgbjgidpadDoorPx43
import Derived.Test.YtlohmpgbjgidpadDoorPx57
import Derived.Test.YtlohmpgbjgidpadDoorPx58
import Derived.Lib.ItoaNum
import Derived.Lib.ItoaMem
import Derived.Lib.ItoaLen
import Derived.Lib.SmallJoins
import Derived.Lib.AtoiAll
import Derived.Lib.AtoiAllCases
set_option linter.unusedVariables false
set_option linter.unusedSimpArgs false

namespace Go.Proofs.YtlohmpgbjgidpadDoor.Q
open Go.RowKit Go.Proofs.YtlohmpgbjgidpadDoor.P Go.Proofs.YtlohmpgbjgidpadDoorW.PrintWords Go.Proofs.YtlohmpgbjgidpadDoorW.PrintLast
/- Small lemmas on the printed functions' words: numbers of 64 bits, elements of lists, rounds. -/
theorem w64 {x : Int} (h : -9223372036854775808 ≤ x) (h' : x ≤ 9223372036854775807) : wrap64 x = x := by
 unfold wrap64; omega
theorem w64n {i : Nat} (h : i < 9223372036854775807) : wrap64 ((i : Int) + 1) = ((i + 1 : Nat) : Int) := by
 rw [w64 (by omega) (by omega)]; omega
theorem bdn (s : ByteArray) (i : Nat) (h : i < s.size) : bt s (i : Int) = (s[i]'h).toNat := by simp [bt, h]
/-- From a round on. -/
theorem Ev.from {α : Type} {g : Nat → Option α} {r : α} {K : Nat} (h : ∀ k, K ≤ k → g k = some r) : Ev g r := ⟨K, h⟩
theorem Ev.succ {α : Type} {g f : Nat → Option α} {r : α} (h : ∀ k, g (k + 1) = f k) (hf : Ev f r) : Ev g r := Ev.step h hf
theorem Ev.plain {α β : Type} {x : Option α} {f : Nat → α → Option β} {a : α} {r : β} (h : x = some a) (k : Ev (fun n => f n a) r) : Ev (fun n => x.bind (f n)) r := by
 subst h; exact k
theorem Ev.pos {α : Type} {c : Prop} [Decidable c] {g f : Nat → Option α} {r : α} (h : c) (hg : Ev g r) : Ev (fun k => if c then g k else f k) r := by
 simp only [if_pos h]; exact hg
theorem Ev.neg {α : Type} {c : Prop} [Decidable c] {g f : Nat → Option α} {r : α} (h : ¬ c) (hf : Ev f r) : Ev (fun k => if c then g k else f k) r := by
 simp only [if_neg h]; exact hf
theorem Ev.out {α : Type} {g : Nat → Option α} {r : α} (h : Ev g r) : ∃ k, g k = some r := h.rounds
theorem Ev.same {α : Type} {g f : Nat → Option α} {r : α} (h : ∀ k, g k = f k) (hf : Ev f r) : Ev g r := Ev.congr h hf

end Go.Proofs.YtlohmpgbjgidpadDoor.Q
namespace Go.Proofs.YtlohmpgbjgidpadDoor.Q
open Go.RowKit Go.Proofs.YtlohmpgbjgidpadDoor.P Go.Proofs.YtlohmpgbjgidpadDoorW.PrintWords Go.Proofs.YtlohmpgbjgidpadDoorW.PrintLast
/- Loops over a string's bytes: the functions of digits, names and words. -/
theorem bytes_loop (s : ByteArray) : ∀ (d i : Nat) (r : List UInt8), i + d = s.size → ByteArray.toList.loop s i r = r.reverse ++ s.data.toList.drop i := by
 intro d
 induction d with
 | zero =>
  intro i r h
  unfold ByteArray.toList.loop
  rw [if_neg (by omega), List.drop_of_length_le (by rw [data_length]; omega), List.append_nil]
 | succ d ih =>
  intro i r h
  unfold ByteArray.toList.loop
  have hl : i < s.data.toList.length := by rw [data_length]; omega
  rw [if_pos (by omega), ih (i + 1) _ (by omega), List.drop_eq_getElem_cons hl, List.reverse_cons, List.append_assoc, List.singleton_append]
  congr 2
  have : s.get! i = s.data[i]! := rfl
  rw [this, getElem!_pos s.data i (by simpa using hl)]
  simp
theorem bytes_toList (s : ByteArray) : s.toList = s.data.toList := by
 have := bytes_loop s s.size 0 [] (by omega)
 simpa [ByteArray.toList] using this
theorem bytes_eq {s t : ByteArray} (h : s.data.toList = t.data.toList) : s = t := by
 cases s; cases t; simp only at h; congr; exact Array.toList_inj.mp h
/-- Every byte from place i on meets a test. -/
def allFrom (p : Nat → Int → Bool) (s : ByteArray) (i : Nat) : Bool := (List.range' i (s.size - i)).all fun j => p j (bt s (j : Int))
theorem allFrom_end (p : Nat → Int → Bool) (s : ByteArray) (i : Nat) (h : s.size ≤ i) : allFrom p s i = true := by
 rw [allFrom, show s.size - i = 0 by omega]; rfl
theorem allFrom_step (p : Nat → Int → Bool) (s : ByteArray) (i : Nat) (h : i < s.size) : allFrom p s i = (p i (bt s (i : Int)) && allFrom p s (i + 1)) := by
 rw [allFrom, show s.size - i = (s.size - (i + 1)) + 1 by omega, List.range'_succ, List.all_cons]; rfl
def digitP (_ : Nat) (c : Int) : Bool := decide (48 ≤ c) && decide (c ≤ 57)

end Go.Proofs.YtlohmpgbjgidpadDoor.Q
namespace Go.Proofs.YtlohmpgbjgidpadDoor.Q
open Go.RowKit Go.Proofs.YtlohmpgbjgidpadDoor.P Go.Proofs.YtlohmpgbjgidpadDoorW.PrintWords Go.Proofs.YtlohmpgbjgidpadDoorW.PrintLast
/- The reference's decimal numerals are strconv's. -/
open Go.Lib (decDigits itoa)
def bs (l : List UInt8) : ByteArray := ⟨l.toArray⟩
theorem bs_size (l : List UInt8) : (bs l).size = l.length := by simp [bs, ByteArray.size]
theorem bs_append (l m : List UInt8) : bs l ++ bs m = bs (l ++ m) := by
 apply bytes_eq
 rw [Go.Joins.data_append]
 simp [bs]
theorem digit_byte : ∀ d : Fin 10, strOfNums [(wrap64 (48 + (d.val : Int))) % 256] = bs [UInt8.ofNat (48 + d.val)] := by decide +kernel
theorem digit_byte' (d : Nat) (h : d < 10) : strOfNums [(wrap64 (48 + (d : Int))) % 256] = bs [UInt8.ofNat (48 + d)] := digit_byte ⟨d, h⟩
theorem fmt_loop : ∀ (u : Nat) (acc : List UInt8), u ≤ 9223372036854775807 → acc.length + (decDigits u).length ≤ 1000 → Ev (fun k => spec_FormatInt.l0 k (u : Int) (bs acc)) (bs (decDigits u ++ acc)) := by
 intro u
 induction u using Nat.strongRecOn with
 | _ u ih =>
  intro acc hu ha
  by_cases h : u < 10
  ·rw [decDigits, dif_pos h] at ha ⊢
   refine Ev.step (fun k => by rw [spec_FormatInt.l0]) (Ev.neg (by omega) (Ev.plain rfl ?_))
   rw [digit_byte' u h]
   refine Ev.pos (by rw [bs_size, bs_size]; simp at ha ⊢; omega) ?_
   rw [bs_append]
   exact Ev.now _
  ·rw [decDigits, dif_neg h] at ha ⊢
   rw [List.length_append, List.length_singleton] at ha
   refine Ev.step (fun k => by rw [spec_FormatInt.l0]) (Ev.pos (by omega) (Ev.plain rfl ?_))
   rw [show Int.tmod (u : Int) 10 = ((u % 10 : Nat) : Int) by rw [Int.tmod_eq_emod_of_nonneg (by omega)]; omega, digit_byte' (u % 10) (by omega)]
   refine Ev.pos (by rw [bs_size, bs_size]; simp only [List.length_singleton]; omega) ?_
   rw [show wrap64 (Int.tdiv (u : Int) 10) = ((u / 10 : Nat) : Int) by rw [Int.tdiv_eq_ediv_of_nonneg (by omega), w64 (by omega) (by omega)]; omega, bs_append, List.append_assoc]
   exact ih (u / 10) (by omega) _ (by omega) (by simp only [List.length_append, List.length_singleton]; omega)
theorem fmt_neg : ∀ (u : Nat), 1 ≤ u → u ≤ 9223372036854775808 → Ev (fun k => spec_FormatInt.f k (-(u : Int))) (bs (45 :: decDigits u)) := by
 intro u
 induction u using Nat.strongRecOn with
 | _ u ih =>
  intro h1 h2
  have td : Int.tdiv (-(u : Int)) 10 = -((u / 10 : Nat) : Int) := by
   rw [Int.neg_tdiv, Int.tdiv_eq_ediv_of_nonneg (by omega)]
   omega
  have tm : Int.tmod (-(u : Int)) 10 = -((u % 10 : Nat) : Int) := by
   rw [Int.neg_tmod, Int.tmod_eq_emod_of_nonneg (by omega)]
   omega
  have lq : (decDigits u).length ≤ 20 := by
   rw [Go.Lib.decDigits_length]
   exact Go.Lib.nDigits_le20 u (by omega)
  have wd : wrap64 (-((u / 10 : Nat) : Int)) = -((u / 10 : Nat) : Int) := w64 (by omega) (by omega)
  refine Ev.step (fun k => by rw [spec_FormatInt.f]) (Ev.pos (by omega) ?_)
  rw [td, wd]
  by_cases h : u < 10
  ·rw [decDigits, dif_pos h]
   refine Ev.pos (by omega) (Ev.plain rfl ?_)
   rw [show (48 : Int) - -(u : Int) = 48 + (u : Int) by omega, digit_byte' u h]
   refine Ev.pos (by rw [bs_size]; simp) ?_
   rw [show (⟨#[45]⟩ : ByteArray) = bs [45] from rfl, bs_append]
   exact Ev.now _
  ·have ih' := ih (u / 10) (by omega) (by omega) (by omega)
   have e : decDigits u = decDigits (u / 10) ++ [UInt8.ofNat (48 + u % 10)] := by
    conv => lhs; rw [decDigits, dif_neg h]
   rw [e] at lq ⊢
   rw [List.length_append, List.length_singleton] at lq
   refine Ev.neg (by omega) (Ev.bind ih' (Ev.plain rfl ?_))
   rw [tm, show (48 : Int) - -((u % 10 : Nat) : Int) = 48 + ((u % 10 : Nat) : Int) by omega, digit_byte' (u % 10) (by omega)]
   refine Ev.pos (by rw [bs_size, bs_size]; simp only [List.length_cons, List.length_nil]; omega) ?_
   rw [bs_append, List.cons_append]
   exact Ev.now _
/-- What FormatInt returns. -/
def fmtB (n : Int) : ByteArray := bs (itoa n)
theorem spec_FormatInt_ev (n : Int) (h0 : -9223372036854775808 ≤ n) (h1 : n ≤ 9223372036854775807) : Ev (fun k => spec_FormatInt.f k n) (fmtB n) := by
 unfold fmtB
 by_cases h : n < 0
 ·obtain ⟨u, rfl⟩ : ∃ u : Nat, n = -(u : Int) := ⟨n.natAbs, by omega⟩
  rw [Go.Lib.itoa_neg u (by omega)]
  exact fmt_neg u (by omega) (by omega)
 ·obtain ⟨u, rfl⟩ : ∃ u : Nat, n = (u : Int) := ⟨n.toNat, by omega⟩
  rw [Go.Lib.itoa_nonneg]
  have lq : (decDigits u).length ≤ 20 := by
   rw [Go.Lib.decDigits_length]
   exact Go.Lib.nDigits_le20 u (by omega)
  have := fmt_loop u [] (by omega) (by simp; omega)
  rw [List.append_nil] at this
  exact Ev.step (fun k => by rw [spec_FormatInt.f]) (Ev.neg (by omega) (show Ev (fun k => spec_FormatInt.l0 k (u : Int) (⟨#[]⟩ : ByteArray)) _ from this))
theorem impl_FormatInt_some (n : Int) (h0 : -9223372036854775808 ≤ n) (h1 : n ≤ 9223372036854775807) : impl_FormatInt.f n = some (fmtB n) := by
 unfold impl_FormatInt.f
 simp only [strconv_Itoa_15.f, if_pos (show -9223372036854775808 ≤ n ∧ n ≤ 9223372036854775807 from ⟨h0, h1⟩), Option.bind_some]
 rfl

end Go.Proofs.YtlohmpgbjgidpadDoor.Q
namespace Go.Proofs.YtlohmpgbjgidpadDoor.Q
open Go.RowKit Go.Proofs.YtlohmpgbjgidpadDoor.P Go.Proofs.YtlohmpgbjgidpadDoorW.PrintWords Go.Proofs.YtlohmpgbjgidpadDoorW.PrintLast
/- The two IsDigits functions. -/
theorem spec_IsDigits_loop (s : ByteArray) (hn : s.size < 9223372036854775807) : ∀ (d i : Nat), i + d = s.size →
  Ev (fun k => spec_IsDigits.l0 k s i) (allFrom digitP s i && decide (0 < s.size)) := by
 intro d
 induction d with
 | zero =>
  intro i h
  refine Ev.step (fun k => by rw [spec_IsDigits.l0]) ?_
  refine Ev.neg (by omega) ?_
  rw [allFrom_end _ _ _ (by omega)]
  have : decide ((s.size : Int) > 0) = decide (0 < s.size) := decide_eq_decide.2 (by omega)
  rw [this]
  simpa using Ev.now _
 | succ d ih =>
  intro i h
  refine Ev.step (fun k => by rw [spec_IsDigits.l0]) ?_
  refine Ev.pos (by omega) (Ev.pos (by omega) ?_)
  rw [allFrom_step _ _ _ (by omega), w64n (by omega)]
  generalize bt s (i : Int) = c
  by_cases h1 : c < 48
  ·refine Ev.pos h1 ?_
   rw [show digitP i c = false by simp [digitP]; omega]
   exact Ev.now _
  ·refine Ev.neg h1 ?_
   by_cases h2 : c > 57
   ·refine Ev.pos h2 ?_
    rw [show digitP i c = false by simp [digitP]; omega]
    exact Ev.now _
   ·refine Ev.neg h2 ?_
    rw [show digitP i c = true by simp [digitP]; omega, Bool.true_and]
    exact ih (i + 1) (by omega)
def isDigitsB (s : ByteArray) : Bool := allFrom digitP s 0 && decide (0 < s.size)
theorem spec_IsDigits_ev (s : ByteArray) (hn : s.size < 9223372036854775807) : Ev (fun k => spec_IsDigits.f k s) (isDigitsB s) :=
 Ev.same (fun k => by rw [spec_IsDigits.f]; rfl) (spec_IsDigits_loop s hn s.size 0 (by omega))

end Go.Proofs.YtlohmpgbjgidpadDoor.Q
namespace Go.Proofs.YtlohmpgbjgidpadDoor.Q
open Go.RowKit Go.Proofs.YtlohmpgbjgidpadDoor.P Go.Proofs.YtlohmpgbjgidpadDoorW.PrintWords Go.Proofs.YtlohmpgbjgidpadDoorW.PrintLast
/- The two ParseInt functions: what strconv.Itoa writes is read back, all else is refused. -/
open Go.Lib (decDigits itoa atoiAll parseUint10 parseMag)
theorem parse_app : ∀ (l m : List UInt8) (a b : Nat), parseUint10 a l = .ok b → parseUint10 a (l ++ m) = parseUint10 b m
 | [], m, a, b, h => by
  simp only [parseUint10] at h
  injection h with h
  subst h
  rfl
 | c :: r, m, a, b, h => by
  rw [List.cons_append]
  simp only [parseUint10] at h ⊢
  split at h
  ·rename_i c1
   rw [if_pos c1]
   split at h
   ·cases h
   ·rename_i c2
    rw [if_neg c2]
    split at h
    ·cases h
    ·rename_i c3
     rw [if_neg c3]
     exact parse_app r m _ b h
  ·cases h
theorem dig_nat (d : Nat) (h : d < 10) : (UInt8.ofNat (48 + d)).toNat = 48 + d := by
 rw [UInt8.toNat_ofNat']
 omega
theorem parse_dec : ∀ u : Nat, u < 18446744073709551616 → parseUint10 0 (decDigits u) = .ok u := by
 intro u
 induction u using Nat.strongRecOn with
 | _ u ih =>
  intro hu
  by_cases h : u < 10
  ·rw [decDigits, dif_pos h]
   simp only [parseUint10, dig_nat u h]
   rw [if_pos (by omega), if_neg (by omega), if_neg (by omega)]
   congr 1
   omega
  ·rw [decDigits, dif_neg h, parse_app _ _ _ _ (ih (u / 10) (by omega) (by omega))]
   simp only [parseUint10, dig_nat (u % 10) (by omega)]
   rw [if_pos (by omega), if_neg (by omega), if_neg (by omega)]
   congr 1
   omega
/-- All bytes are digits. -/
theorem dec_all : ∀ (u : Nat), ∀ b ∈ decDigits u, 48 ≤ b.toNat ∧ b.toNat ≤ 57 := by
 intro u
 induction u using Nat.strongRecOn with
 | _ u ih =>
  intro b hb
  by_cases h : u < 10
  ·rw [decDigits, dif_pos h, List.mem_singleton] at hb
   rw [hb, dig_nat u h]
   omega
  ·rw [decDigits, dif_neg h, List.mem_append, List.mem_singleton] at hb
   rcases hb with hb | hb
   ·exact ih (u / 10) (by omega) b hb
   ·rw [hb, dig_nat (u % 10) (by omega)]
    omega
theorem dec_cons (u : Nat) : ∃ c r, decDigits u = c :: r := by
 cases e : decDigits u with
 | nil =>
  exfalso
  rw [decDigits] at e
  split at e <;> simp at e
 | cons c r => exact ⟨c, r, rfl⟩
theorem mag_dec (u : Nat) (h : u < 18446744073709551616) : parseMag (decDigits u) = .ok u := by
 unfold parseMag
 obtain ⟨c, r, e⟩ := dec_cons u
 rw [if_neg (by rw [e]; simp), parse_dec u h]
theorem atoi_itoa (v : Int) (h0 : -9223372036854775808 ≤ v) (h1 : v ≤ 9223372036854775807) : atoiAll (itoa v) = .ok v := by
 by_cases h : v < 0
 ·obtain ⟨u, rfl⟩ : ∃ u : Nat, v = -(u : Int) := ⟨v.natAbs, by omega⟩
  rw [Go.Lib.itoa_neg u (by omega), Go.Lib.atoiAll_minus, mag_dec u (by omega)]
  show (if 9223372036854775808 < u then Go.Lib.NumEnd.range else .ok (-(u : Int))) = _
  rw [if_neg (by omega)]
 ·obtain ⟨u, rfl⟩ : ∃ u : Nat, v = (u : Int) := ⟨v.toNat, by omega⟩
  rw [Go.Lib.itoa_nonneg]
  obtain ⟨c, r, e⟩ := dec_cons u
  have hc := dec_all u c (by rw [e]; exact List.mem_cons_self)
  rw [e, Go.Lib.atoiAll_plain c r (by omega) (by omega), ← e, mag_dec u (by omega)]
  show (if 9223372036854775808 ≤ u then Go.Lib.NumEnd.range else .ok (u : Int)) = _
  rw [if_neg (by omega)]
theorem bs_list (l : List UInt8) : (bs l).data.toList = l := rfl
theorem fmt_list (v : Int) : (fmtB v).data.toList = itoa v := rfl
def inR (v : Int) : Prop := -9223372036854775808 ≤ v ∧ v ≤ 9223372036854775807
theorem impl_Parse_hit (v : Int) (h : inR v) : impl_ParseInt.f (fmtB v) = some (v, true) := by
 have hs : (fmtB v).size ≤ 281474976710656 := by
  have := Go.Lib.itoa_length_le v h.1 h.2
  have e : (fmtB v).size = (itoa v).length := bs_size _
  omega
 unfold impl_ParseInt.f
 rw [if_pos hs, fmt_list, atoi_itoa v h.1 h.2]
 simp only [impl_FormatInt_some v h.1 h.2, Option.bind_some, if_true]
theorem impl_Parse_no (s : ByteArray) (hs : s.size ≤ 1048576) (h : ∀ v, inR v → fmtB v ≠ s) : impl_ParseInt.f s = some (0, false) := by
 unfold impl_ParseInt.f
 rw [if_pos (by omega)]
 cases e : atoiAll s.data.toList with
 | ok v =>
  have b := Go.Lib.atoiAll_bounds e
  simp only [impl_FormatInt_some v b.1 b.2, Option.bind_some]
  rw [if_neg (fun c => h v b (bytes_eq (by rw [← bytes_toList, ← bytes_toList]; exact c)))]
 | _ => rfl
/-- What the numeral's end tells. -/
theorem spec_end (k0 : Bool) (s t : ByteArray) (n : Int) (i : Nat) (hi : t.size ≤ i) (hn : -9223372036854775808 ≤ n ∧ n ≤ 0) :
  ∃ r, Ev (fun k => spec_ParseInt.l0 k s k0 t n (i : Int)) r ∧ (r = (0, false) ∨ ∃ m, inR m ∧ r = (m, true) ∧ fmtB m = s) ∧ (∀ m, inR m → fmtB m = s → m = (if k0 = true then n else -n) → r = (m, true)) := by
 cases k0 with
 | true =>
  have e := spec_FormatInt_ev n hn.1 (by omega)
  by_cases c : (fmtB n).toList = s.toList
  ·have c' : fmtB n = s := bytes_eq (by rw [← bytes_toList, ← bytes_toList]; exact c)
   refine ⟨(n, true), Ev.step (fun k => by rw [spec_ParseInt.l0]) (Ev.neg (by omega) (Ev.pos rfl (Ev.bind e (Ev.pos c (Ev.now _))))), Or.inr ⟨n, ⟨hn.1, by omega⟩, rfl, c'⟩, fun m _ _ h => ?_⟩
   simp only [if_true] at h
   rw [h]
  ·refine ⟨(0, false), Ev.step (fun k => by rw [spec_ParseInt.l0]) (Ev.neg (by omega) (Ev.pos rfl (Ev.bind e (Ev.neg c (Ev.now _))))), Or.inl rfl, fun m _ q h => ?_⟩
   simp only [if_true] at h
   rw [h] at q
   exact absurd (by rw [q]) c
 | false =>
  by_cases h : n = -9223372036854775808
  ·refine ⟨(0, false), Ev.step (fun k => by rw [spec_ParseInt.l0]) (Ev.neg (by omega) (Ev.neg (by simp) (Ev.pos h (Ev.now _)))), Or.inl rfl, fun m hm _ q => ?_⟩
   simp at q
   have := hm.2
   omega
  ·have w : wrap64 (-n) = -n := w64 (by omega) (by omega)
   have e := spec_FormatInt_ev (-n) (by omega) (by omega)
   by_cases c : (fmtB (-n)).toList = s.toList
   ·have c' : fmtB (-n) = s := bytes_eq (by rw [← bytes_toList, ← bytes_toList]; exact c)
    refine ⟨(-n, true), Ev.step (fun k => by rw [spec_ParseInt.l0, w]) (Ev.neg (by omega) (Ev.neg (by simp) (Ev.neg h (Ev.bind e (Ev.pos c (Ev.now _)))))), Or.inr ⟨-n, ⟨by omega, by omega⟩, rfl, c'⟩, fun m _ _ q => ?_⟩
    simp at q
    rw [q]
   ·refine ⟨(0, false), Ev.step (fun k => by rw [spec_ParseInt.l0, w]) (Ev.neg (by omega) (Ev.neg (by simp) (Ev.neg h (Ev.bind e (Ev.neg c (Ev.now _)))))), Or.inl rfl, fun m _ q' q => ?_⟩
    simp at q
    rw [q] at q'
    exact absurd (by rw [q']) c
/-- The value of a row of digits behind a number. -/
def valF (a : Nat) (l : List UInt8) : Nat := l.foldl (fun x b => x * 10 + (b.toNat - 48)) a
theorem valF_nil (a : Nat) : valF a [] = a := rfl
theorem valF_cons (a : Nat) (b : UInt8) (r : List UInt8) : valF a (b :: r) = valF (a * 10 + (b.toNat - 48)) r := by unfold valF; exact List.foldl_cons ..
theorem valF_le (l : List UInt8) : ∀ a : Nat, a ≤ valF a l := by
 induction l with
 | nil => exact fun a => Nat.le_refl _
 | cons b r ih =>
  intro a
  have := ih (a * 10 + (b.toNat - 48))
  rw [valF_cons]
  omega
theorem valF_app (l m : List UInt8) (a : Nat) : valF a (l ++ m) = valF (valF a l) m := by
 unfold valF
 rw [List.foldl_append]
theorem val_dec : ∀ u : Nat, valF 0 (decDigits u) = u := by
 intro u
 induction u using Nat.strongRecOn with
 | _ u ih =>
  by_cases h : u < 10
  ·rw [decDigits, dif_pos h, valF_cons, valF_nil, dig_nat u h]
   omega
  ·rw [decDigits, dif_neg h, valF_app, ih (u / 10) (by omega), valF_cons, valF_nil, dig_nat (u % 10) (by omega)]
   omega
theorem nDig_le : ∀ (k u : Nat), u < 10 ^ (k + 1) → Go.Lib.nDigits u ≤ k + 1
 | 0, u, h => by rw [Go.Lib.nDigits_small (by simpa using h)]; omega
 | k + 1, u, h => by
  by_cases c : u < 10
  ·rw [Go.Lib.nDigits_small c]; omega
  ·rw [Go.Lib.nDigits_big c]
   have := nDig_le k (u / 10) (by rw [Nat.div_lt_iff_lt_mul (by omega), ← Nat.pow_succ]; exact h)
   omega
/-- The loop over the digits: l is what is left, a what was read. -/
theorem spec_loop (k0 : Bool) (s t : ByteArray) (ht : t.size ≤ 19) (hd : ∀ i : Nat, i < t.size → 48 ≤ bt t (i : Int) ∧ bt t (i : Int) ≤ 57) : ∀ (d i a : Nat), i + d = t.size → a ≤ 9223372036854775808 →
  ∃ r, Ev (fun k => spec_ParseInt.l0 k s k0 t (-(a : Int)) (i : Int)) r ∧ (r = (0, false) ∨ ∃ m, inR m ∧ r = (m, true) ∧ fmtB m = s) ∧
   (valF a (t.data.toList.drop i) ≤ 9223372036854775808 → ∀ m, inR m → fmtB m = s → m = (if k0 = true then -(valF a (t.data.toList.drop i) : Int) else (valF a (t.data.toList.drop i) : Int)) → r = (m, true))
 | 0, i, a, h, ha => by
  obtain ⟨r, e, p, q⟩ := spec_end k0 s t (-(a : Int)) i (by omega) (by omega)
  refine ⟨r, e, p, fun _ m h1 h2 h3 => q m h1 h2 ?_⟩
  rw [List.drop_eq_nil_of_le (by rw [data_length]; omega), valF_nil] at h3
  cases k0 with
  | true => simpa using h3
  | false => simpa using h3
 | d + 1, i, a, h, ha => by
  have b := hd i (by omega)
  have hb := bdn t i (by omega)
  obtain ⟨x, hx⟩ := Int.eq_ofNat_of_zero_le (show 0 ≤ bt t (i : Int) - 48 by omega)
  have w1 : wrap64 (wrap64 (bt t (i : Int)) - 48) = (x : Int) := by rw [w64 (x := bt t (i : Int)) (by omega) (by omega), w64 (by omega) (by omega)]; exact hx
  have w2 : wrap64 ((-9223372036854775808) + (x : Int)) = -((9223372036854775808 - x : Nat) : Int) := by rw [w64 (by omega) (by omega)]; omega
  have w3 : wrap64 (Int.tdiv (-((9223372036854775808 - x : Nat) : Int)) 10) = -(((9223372036854775808 - x) / 10 : Nat) : Int) := by
   rw [Int.neg_tdiv, Int.tdiv_eq_ediv_of_nonneg (by omega), w64 (by omega) (by omega)]
   omega
  have dr : t.data.toList.drop i = t[i]'(by omega) :: t.data.toList.drop (i + 1) := by
   rw [List.drop_eq_getElem_cons (by rw [data_length]; omega)]
   rfl
  have hx' : (t[i]'(by omega)).toNat - 48 = x := by omega
  have vd : valF a (t.data.toList.drop i) = valF (a * 10 + x) (t.data.toList.drop (i + 1)) := by rw [dr, valF_cons, hx']
  by_cases c : (-(a : Int)) < -(((9223372036854775808 - x) / 10 : Nat) : Int)
  ·refine ⟨(0, false), Ev.step (fun k => by rw [spec_ParseInt.l0, w1, w2, w3]) (Ev.pos (by omega) (Ev.pos (by omega) (Ev.pos c (Ev.now _)))), Or.inl rfl, fun hv => ?_⟩
   have := valF_le (t.data.toList.drop (i + 1)) (a * 10 + x)
   exfalso
   omega
  ·have w4 : wrap64 (wrap64 (-(a : Int) * 10) - (x : Int)) = -((a * 10 + x : Nat) : Int) := by
    rw [w64 (x := -(a : Int) * 10) (by omega) (by omega), w64 (by omega) (by omega)]
    omega
   obtain ⟨r, e, p, q⟩ := spec_loop k0 s t ht hd d (i + 1) (a * 10 + x) (by omega) (by omega)
   refine ⟨r, Ev.step (fun k => by rw [spec_ParseInt.l0, w1, w2, w3, w4, w64n (by omega)]) (Ev.pos (by omega) (Ev.pos (by omega) (Ev.neg c e))), p, fun hv => ?_⟩
   rw [vd] at hv ⊢
   exact q hv
/-- Behind the sign. -/
theorem spec_behind (k0 : Bool) (s t : ByteArray) (ht : t.size ≤ 1048576) : ∃ r, Ev (fun k => spec_ParseInt.j1 k s k0 t) r ∧ (r = (0, false) ∨ ∃ m, inR m ∧ r = (m, true) ∧ fmtB m = s) ∧
  (∀ u, t = bs (decDigits u) → u ≤ 9223372036854775808 → ∀ m, inR m → fmtB m = s → m = (if k0 = true then -(u : Int) else (u : Int)) → r = (m, true)) := by
 have ed := spec_IsDigits_ev t (by omega)
 by_cases c : isDigitsB t = true
 ·by_cases c2 : t.size ≤ 19
  ·have cd : allFrom digitP t 0 = true := by
    unfold isDigitsB at c
    simp only [Bool.and_eq_true] at c
    exact c.1
   have hd : ∀ i : Nat, i < t.size → 48 ≤ bt t (i : Int) ∧ bt t (i : Int) ≤ 57 := fun i hi => by
    rw [allFrom, List.all_eq_true] at cd
    have := cd i (by simp [List.mem_range']; omega)
    simpa only [digitP, Bool.and_eq_true, decide_eq_true_eq] using this
   obtain ⟨r, e, p, q⟩ := spec_loop k0 s t c2 hd t.size 0 0 (by omega) (by omega)
   refine ⟨r, Ev.step (fun k => by rw [spec_ParseInt.j1]) (Ev.bind ed (Ev.pos c ?_)), p, fun u hu hl => ?_⟩
   ·rw [show decide ((t.size : Int) > 19) = false by simp; omega]
    have e' : Ev (fun k => spec_ParseInt.l0 k s k0 t 0 0) r := by simpa using e
    exact Ev.step (fun k => by rw [spec_ParseInt.j2]) (Ev.neg (by simp) e')
   ·have v : valF 0 (t.data.toList.drop 0) = u := by rw [hu, List.drop_zero, bs_list, val_dec]
    rw [v] at q
    exact q hl
  ·refine ⟨(0, false), Ev.step (fun k => by rw [spec_ParseInt.j1]) (Ev.bind ed (Ev.pos c ?_)), Or.inl rfl, fun u hu hl => ?_⟩
   ·rw [show decide ((t.size : Int) > 19) = true by simp; omega]
    exact Ev.step (fun k => by rw [spec_ParseInt.j2]) (Ev.pos rfl (Ev.now _))
   ·exfalso
    have := nDig_le 18 u (by omega)
    rw [hu, bs_size, Go.Lib.decDigits_length] at c2
    omega
 ·refine ⟨(0, false), Ev.step (fun k => by rw [spec_ParseInt.j1]) (Ev.bind ed (Ev.neg c ?_)), Or.inl rfl, fun u hu hl => ?_⟩
  ·exact Ev.step (fun k => by rw [spec_ParseInt.j2]) (Ev.pos rfl (Ev.now _))
  ·exfalso
   apply c
   have al := dec_all u
   obtain ⟨x, y, exy⟩ := dec_cons u
   unfold isDigitsB
   simp only [Bool.and_eq_true]
   refine ⟨?_, ?_⟩
   ·rw [allFrom, List.all_eq_true]
    intro j hj
    rw [hu, bs_size, List.mem_range'] at hj
    obtain ⟨k, hk, rfl⟩ := hj
    have hk' : 0 + 1 * k < (decDigits u).length := by omega
    have e : bt t ((0 + 1 * k : Nat) : Int) = ((decDigits u)[0 + 1 * k].toNat : Int) := by
     rw [hu, bdn (bs (decDigits u)) _ (by rw [bs_size]; exact hk')]
     rfl
    rw [e]
    have := al _ (List.getElem_mem hk')
    simp only [digitP, Bool.and_eq_true, decide_eq_true_eq]
    omega
   ·rw [hu, bs_size, exy]
    simp
theorem spec_Parse (s : ByteArray) (hs : s.size ≤ 1048576) : ∃ r, Ev (fun k => spec_ParseInt.f k s) r ∧ (r = (0, false) ∨ ∃ m, inR m ∧ r = (m, true) ∧ fmtB m = s) ∧ ∀ m, inR m → fmtB m = s → r = (m, true) := by
 by_cases h0 : s.size = 0
 ·obtain ⟨r, e, p, q⟩ := spec_behind false s s hs
  refine ⟨r, Ev.same (fun k => by rw [spec_ParseInt.f]) (Ev.neg (by omega) (Ev.step (fun k => by rw [spec_ParseInt.j0]) (Ev.neg (by simp) e))), p, fun m hm hf => ?_⟩
  exfalso
  have e : (fmtB m).size = (itoa m).length := bs_size _
  rw [hf, h0] at e
  unfold Go.Lib.itoa at e
  split at e
  ·simp at e
  ·obtain ⟨c, r, z⟩ := dec_cons m.toNat
   rw [z] at e
   simp at e
 have b0 := bdn s 0 (by omega)
 by_cases hm : bt s 0 = 45
 ·have et : (s.extract 1 s.size).size ≤ 1048576 := by
   rw [ByteArray.size_extract]
   omega
  obtain ⟨r, e, p, q⟩ := spec_behind true s (s.extract 1 s.size) et
  refine ⟨r, Ev.same (fun k => by rw [spec_ParseInt.f]) (Ev.pos (by omega) (Ev.pos (by omega) ?_)), p, fun m im hf => ?_⟩
  ·rw [show (bt s 0 == 45) = true by simpa using hm]
   exact Ev.step (fun k => by rw [spec_ParseInt.j0]) (Ev.pos rfl (Ev.pos (by omega) e))
  ·by_cases hneg : m < 0
   ·obtain ⟨u, rfl⟩ : ∃ u : Nat, m = -(u : Int) := ⟨m.natAbs, by omega⟩
    have i0 := im.1
    refine q u ?_ (by omega) _ im hf (by simp)
    apply bytes_eq
    rw [← hf, fmtB, Go.Lib.itoa_neg u (by omega)]
    simp [bs, ByteArray.size]
   ·exfalso
    obtain ⟨u, rfl⟩ : ∃ u : Nat, m = (u : Int) := ⟨m.toNat, by omega⟩
    obtain ⟨c, r', z⟩ := dec_cons u
    have hc := dec_all u c (by rw [z]; exact List.mem_cons_self)
    have : s = bs (c :: r') := by rw [← hf, fmtB, Go.Lib.itoa_nonneg, z]
    subst this
    have e1 : bt (bs (c :: r')) 0 = (c.toNat : Int) := b0
    omega
 ·obtain ⟨r, e, p, q⟩ := spec_behind false s s hs
  refine ⟨r, Ev.same (fun k => by rw [spec_ParseInt.f]) (Ev.pos (by omega) (Ev.pos (by omega) ?_)), p, fun m im hf => ?_⟩
  ·rw [show (bt s 0 == 45) = false by simpa using hm]
   exact Ev.step (fun k => by rw [spec_ParseInt.j0]) (Ev.neg (by simp) e)
  ·by_cases hneg : m < 0
   ·exfalso
    obtain ⟨u, rfl⟩ : ∃ u : Nat, m = -(u : Int) := ⟨m.natAbs, by omega⟩
    have : s = bs (45 :: decDigits u) := by rw [← hf, fmtB, Go.Lib.itoa_neg u (by omega)]
    subst this
    exact hm b0
   ·obtain ⟨u, rfl⟩ : ∃ u : Nat, m = (u : Int) := ⟨m.toNat, by omega⟩
    have i1 := im.2
    exact q u (by rw [← hf, fmtB, Go.Lib.itoa_nonneg]) (by omega) _ im hf (by simp)

end Go.Proofs.YtlohmpgbjgidpadDoor.Q
namespace Go.Proofs.YtlohmpgbjgidpadDoor.Pure
open Go.RowKit Go.Proofs.YtlohmpgbjgidpadDoor.P Go.Proofs.YtlohmpgbjgidpadDoorW.PrintWords Go.Proofs.YtlohmpgbjgidpadDoorW.PrintLast Go.Proofs.YtlohmpgbjgidpadDoor.Q

theorem FnExactParseInt : laws_FnExactParseInt.Pure := by
 intro s _
 refine Ev.out ?_
 refine Ev.same (fun k => by rw [laws_FnExactParseInt.f]) ?_
 by_cases h : (s.size : Int) > 1048576
 ·exact Ev.pos h (Ev.now _)
 refine Ev.neg h ?_
 obtain ⟨r, e, p, q⟩ := spec_Parse s (by omega)
 refine Ev.bind e ?_
 by_cases c : ∃ v, inR v ∧ fmtB v = s
 ·obtain ⟨v, iv, rfl⟩ := c
  rw [q v iv rfl]
  refine Ev.plain (impl_Parse_hit v iv) (Ev.pos rfl (Ev.neg (by simp) (Ev.now _)))
 ·have z : r = (0, false) := by
   rcases p with p | ⟨m, im, _, f⟩
   ·exact p
   ·exact absurd ⟨m, im, f⟩ c
  rw [z]
  refine Ev.plain (impl_Parse_no s (by omega) fun v iv f => c ⟨v, iv, f⟩) (Ev.pos rfl (Ev.neg (by simp) (Ev.now _)))

end Go.Proofs.YtlohmpgbjgidpadDoor.Pure

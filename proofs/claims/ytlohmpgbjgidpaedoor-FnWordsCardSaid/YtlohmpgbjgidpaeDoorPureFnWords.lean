/- The law of words and numbers holds for all codes. -/
import Derived.Test.YtlohmpgbjgidpaeDoorWA
import Derived.Test.YtlohmpgbjgidpaeDoorPx1
import Derived.Test.YtlohmpgbjgidpaeDoorPx18
import Derived.Test.YtlohmpgbjgidpaeDoorPx19
import Derived.Test.YtlohmpgbjgidpaeDoorPx2
import Derived.Test.YtlohmpgbjgidpaeDoorPx3
import Derived.Test.YtlohmpgbjgidpaeDoorPx33
import Derived.Test.YtlohmpgbjgidpaeDoorPx34
import Derived.Test.YtlohmpgbjgidpaeDoorPx35
import Derived.Test.YtlohmpgbjgidpaeDoorPx36
import Derived.Test.YtlohmpgbjgidpaeDoorPx4
import Derived.Test.YtlohmpgbjgidpaeDoorPx44
import Derived.Test.YtlohmpgbjgidpaeDoorPx45
import Derived.Test.YtlohmpgbjgidpaeDoorPx49
import Derived.Test.YtlohmpgbjgidpaeDoorPx50
import Derived.Test.YtlohmpgbjgidpaeDoorPx64
import Derived.Test.YtlohmpgbjgidpaeDoorPx65
import Derived.Test.YtlohmpgbjgidpaeDoorPx66
import Derived.Lib.ItoaNum
import Derived.Lib.ItoaMem
import Derived.Lib.ItoaLen
import Derived.Lib.SmallJoins
import Derived.Lib.AtoiAll
import Derived.Lib.AtoiAllCases
import Derived.Lib.IndexLaws
import Derived.Lib.Join
import Derived.Lib.CountLaws
import Derived.Lib.Split
set_option linter.unusedVariables false
set_option linter.unusedSimpArgs false

namespace Go.Proofs.YtlohmpgbjgidpaeDoor.Q
open Go.RowKit Go.Proofs.YtlohmpgbjgidpaeDoor.P Go.Proofs.YtlohmpgbjgidpaeDoorW.PrintWords Go.Proofs.YtlohmpgbjgidpaeDoorW.PrintLast
/- Small lemmas on the printed functions' words: numbers of 64 bits, elements of lists, rounds. -/
theorem w64 {x : Int} (h : -9223372036854775808 ≤ x) (h' : x ≤ 9223372036854775807) : wrap64 x = x := by
 unfold wrap64; omega
theorem w64n {i : Nat} (h : i < 9223372036854775807) : wrap64 ((i : Int) + 1) = ((i + 1 : Nat) : Int) := by
 rw [w64 (by omega) (by omega)]; omega
theorem bdn (s : ByteArray) (i : Nat) (h : i < s.size) : bt s (i : Int) = (s[i]'h).toNat := by simp [bt, h]
/-- From a round on. -/
theorem Ev.from {α : Type} {g : Nat → Option α} {r : α} {K : Nat} (h : ∀ k, K ≤ k → g k = some r) : Ev g r := ⟨K, h⟩
theorem Ev.succ {α : Type} {g f : Nat → Option α} {r : α} (h : ∀ k, g (k + 1) = f k) (hf : Ev f r) : Ev g r := Ev.step h hf
theorem Ev.plain {α β : Type} {x : Option α} {f : Nat → α → Option β} {a : α} {r : β} (h : x = some a) (k : Ev (fun n => f n a) r) : Ev (fun n => x.bind (f n)) r := by
 subst h; exact k
theorem Ev.pos {α : Type} {c : Prop} [Decidable c] {g f : Nat → Option α} {r : α} (h : c) (hg : Ev g r) : Ev (fun k => if c then g k else f k) r := by
 simp only [if_pos h]; exact hg
theorem Ev.neg {α : Type} {c : Prop} [Decidable c] {g f : Nat → Option α} {r : α} (h : ¬ c) (hf : Ev f r) : Ev (fun k => if c then g k else f k) r := by
 simp only [if_neg h]; exact hf
theorem Ev.out {α : Type} {g : Nat → Option α} {r : α} (h : Ev g r) : ∃ k, g k = some r := h.rounds
theorem Ev.same {α : Type} {g f : Nat → Option α} {r : α} (h : ∀ k, g k = f k) (hf : Ev f r) : Ev g r := Ev.congr h hf

end Go.Proofs.YtlohmpgbjgidpaeDoor.Q
namespace Go.Proofs.YtlohmpgbjgidpaeDoor.Q
open Go.RowKit Go.Proofs.YtlohmpgbjgidpaeDoor.P Go.Proofs.YtlohmpgbjgidpaeDoorW.PrintWords Go.Proofs.YtlohmpgbjgidpaeDoorW.PrintLast
/- Loops over a string's bytes: the functions of digits, names and words. -/
theorem bytes_eq {s t : ByteArray} (h : s.data.toList = t.data.toList) : s = t := by
 cases s; cases t; simp only at h; congr; exact Array.toList_inj.mp h
/-- Every byte from place i on meets a test. -/
def allFrom (p : Nat → Int → Bool) (s : ByteArray) (i : Nat) : Bool := (List.range' i (s.size - i)).all fun j => p j (bt s (j : Int))
theorem allFrom_end (p : Nat → Int → Bool) (s : ByteArray) (i : Nat) (h : s.size ≤ i) : allFrom p s i = true := by
 rw [allFrom, show s.size - i = 0 by omega]; rfl
theorem allFrom_step (p : Nat → Int → Bool) (s : ByteArray) (i : Nat) (h : i < s.size) : allFrom p s i = (p i (bt s (i : Int)) && allFrom p s (i + 1)) := by
 rw [allFrom, show s.size - i = (s.size - (i + 1)) + 1 by omega, List.range'_succ, List.all_cons]; rfl
def nameP (i : Nat) (c : Int) : Bool := (decide (97 ≤ c) && decide (c ≤ 122)) || (decide (i ≠ 0) && (decide (48 ≤ c) && decide (c ≤ 57)))

end Go.Proofs.YtlohmpgbjgidpaeDoor.Q
namespace Go.Proofs.YtlohmpgbjgidpaeDoor.Q
open Go.RowKit Go.Proofs.YtlohmpgbjgidpaeDoor.P Go.Proofs.YtlohmpgbjgidpaeDoorW.PrintWords Go.Proofs.YtlohmpgbjgidpaeDoorW.PrintLast
/- What the constructors of the laws' arguments come to: some number within its bounds, some permutation. -/
theorem and255 (y : Int) : ∃ m : Nat, m < 256 ∧ Go.bits .and .i64 y 255 = (m : Int) := by
 have hx : (BitVec.ofInt 64 y).toNat &&& 255 ≤ 255 := Nat.and_le_right
 refine ⟨(BitVec.ofInt 64 y).toNat &&& 255, by omega, ?_⟩
 show IntKind.i64.wrap ((BitVec.ofInt 64 y &&& BitVec.ofInt 64 255).toNat : Int) = _
 rw [BitVec.toNat_and, show (BitVec.ofInt 64 255).toNat = 255 by decide]
 rw [i64_w]
 exact w64 (by omega) (by omega)
theorem byte_some (b : List Int) (i h : Int) (h0 : 0 ≤ i) (h1 : i ≤ (b.length : Int)) (hl : b.length < 4611686018427387904) : ∃ x i' h', spec_l01Byte.f b i h = some (x, i', h') ∧ (0 ≤ x ∧ x < 256) ∧ 0 ≤ i' ∧ i' ≤ (b.length : Int) := by
 unfold spec_l01Byte.f
 by_cases c : i < (b.length : Int)
 ·rw [if_pos c, if_pos h0]
  obtain ⟨m, hm, e⟩ := and255 (wrap64 ((Go.bits .and .i64 (Go.bits .xor .i64 ((wrap64 ((wrap64 (h * 6364136223846793005)) + 1442695040888963407)) / 8589934592) ((wrap64 ((wrap64 (h * 6364136223846793005)) + 1442695040888963407)) / 35184372088832)) 255) + (wrap64 (rd b i))))
  rw [e, w64 (by omega) (by omega)]
  exact ⟨_, _, _, rfl, by omega, by omega, by omega⟩
 ·rw [if_neg c]
  obtain ⟨m, hm, e⟩ := and255 (Go.bits .xor .i64 ((wrap64 ((wrap64 (h * 6364136223846793005)) + 1442695040888963407)) / 8589934592) ((wrap64 ((wrap64 (h * 6364136223846793005)) + 1442695040888963407)) / 35184372088832))
  rw [e]
  exact ⟨_, _, _, rfl, by omega, h0, h1⟩
theorem below_some (b : List Int) (i h n : Int) (h0 : 0 ≤ i) (h1 : i ≤ (b.length : Int)) (hl : b.length < 4611686018427387904) (n0 : 0 < n) (n1 : n ≤ 256) : ∃ x i' h', spec_l01Below.f b i h n = some (x, i', h') ∧ (0 ≤ x ∧ x < n) ∧ 0 ≤ i' ∧ i' ≤ (b.length : Int) := by
 obtain ⟨x, i', h', e, hx, hi⟩ := byte_some b i h h0 h1 hl
 unfold spec_l01Below.f
 rw [if_neg (by omega), if_pos n1, e]
 simp only [Option.bind_some]
 rw [if_neg (by omega)]
 refine ⟨_, _, _, rfl, ?_, hi⟩
 rw [Int.tmod_eq_emod_of_nonneg hx.1]
 exact ⟨Int.emod_nonneg _ (by omega), Int.emod_lt_of_pos _ n0⟩
theorem new_loop (l : List Int) (hl : l.length < 4611686018427387904) : ∀ (d i : Nat) (h : Int), i + d = l.length → ∃ h', Ev (fun k => spec_l01New.l0 k l h i) (l, 0, h') := by
 intro d
 induction d with
 | zero =>
  intro i h hi
  exact ⟨h, Ev.step (fun k => by rw [spec_l01New.l0]) (Ev.neg (by omega) (Ev.now _))⟩
 | succ d ih =>
  intro i h hi
  by_cases c : (i : Int) < 4000
  ·obtain ⟨h', e⟩ := ih (i + 1) (Go.bits .and .i64 (wrap64 ((wrap64 ((wrap64 (h * 109)) + (wrap64 (rd l i)))) + 7)) 1073741823) (by omega)
   refine ⟨h', Ev.step (fun k => by rw [spec_l01New.l0]) (Ev.pos (by omega) (Ev.pos c (Ev.pos (by omega) ?_)))⟩
   rw [w64n (by omega)]
   exact e
  ·exact ⟨h, Ev.step (fun k => by rw [spec_l01New.l0]) (Ev.pos (by omega) (Ev.neg c (Ev.now _)))⟩
theorem new_ev (l : List Int) (hl : l.length < 4611686018427387904) : ∃ h, Ev (fun k => spec_l01New.f k l) (l, 0, h) := by
 obtain ⟨h, e⟩ := new_loop l hl l.length 0 (wrap64 (2073 + (l.length : Int))) (by omega)
 exact ⟨h, Ev.same (fun k => by rw [spec_l01New.f]; rfl) e⟩
theorem l20_loop (l : List Int) (hl : l.length < 4611686018427387904) (n : Nat) (hn : n < 1000) : ∀ (d j : Nat) (i h : Int), j + d = n → 0 ≤ i → i ≤ (l.length : Int) → ∃ i' h', Ev (fun k => spec_l20New.l0 k n j l i h) (l, i', h') ∧ 0 ≤ i' ∧ i' ≤ (l.length : Int) := by
 intro d
 induction d with
 | zero =>
  intro j i h hj h0 h1
  exact ⟨i, h, Ev.step (fun k => by rw [spec_l20New.l0]) (Ev.neg (by omega) (Ev.now _)), h0, h1⟩
 | succ d ih =>
  intro j i h hj h0 h1
  obtain ⟨x, i', h', e, _, a, b⟩ := byte_some l i h h0 h1 hl
  obtain ⟨i2, h2, e2, c⟩ := ih (j + 1) i' h' (by omega) a b
  refine ⟨i2, h2, Ev.step (fun k => by rw [spec_l20New.l0]) (Ev.pos (by omega) (Ev.plain e ?_)), c⟩
  rw [w64n (by omega)]
  exact e2
theorem l20_ev (l : List Int) (hl : l.length < 4611686018427387904) (n : Nat) (hn : n < 1000) : ∃ i h, Ev (fun k => spec_l20New.f k l (n : Int)) (l, i, h) ∧ 0 ≤ i ∧ i ≤ (l.length : Int) := by
 obtain ⟨h, e⟩ := new_ev l hl
 obtain ⟨i', h', e', a, b⟩ := l20_loop l hl n hn n 0 0 h (by omega) (by omega) (by omega)
 exact ⟨i', h', Ev.same (fun k => by rw [spec_l20New.f]) (Ev.bind e e'), a, b⟩
/-- Some number from 0 up to 65536. -/
theorem MakeNum_ev (l : List Int) (hl : l.length < 4611686018427387904) (n : Nat) (hn : n < 1000) : ∃ r : Int, Ev (fun k => spec_MakeNum.f k l (n : Int)) r ∧ 0 ≤ r ∧ r < 65536 := by
 obtain ⟨i, h, e, a, b⟩ := l20_ev l hl n hn
 obtain ⟨x, i1, h1, e1, x1, a1, b1⟩ := byte_some l i h a b hl
 obtain ⟨y, i2, h2, e2, y1, _⟩ := byte_some l i1 h1 a1 b1 hl
 refine ⟨wrap64 ((wrap64 (x * 256)) + y), Ev.same (fun k => by rw [spec_MakeNum.f]) (Ev.bind e ?_), ?_⟩
 ·refine Ev.plain e1 ?_
  refine Ev.plain e2 ?_
  exact Ev.now _
 rw [w64 (x := x * 256) (by omega) (by omega), w64 (by omega) (by omega)]
 omega

end Go.Proofs.YtlohmpgbjgidpaeDoor.Q
namespace Go.Proofs.YtlohmpgbjgidpaeDoor.Q
open Go.RowKit Go.Proofs.YtlohmpgbjgidpaeDoor.P Go.Proofs.YtlohmpgbjgidpaeDoorW.PrintWords Go.Proofs.YtlohmpgbjgidpaeDoorW.PrintLast
/- The reference's decimal numerals are strconv's. -/
open Go.Lib (decDigits itoa)
def bs (l : List UInt8) : ByteArray := ⟨l.toArray⟩
theorem bs_size (l : List UInt8) : (bs l).size = l.length := by simp [bs, ByteArray.size]
/-- What FormatInt returns. -/
def fmtB (n : Int) : ByteArray := bs (itoa n)
theorem impl_FormatInt_some (n : Int) (h0 : -9223372036854775808 ≤ n) (h1 : n ≤ 9223372036854775807) : impl_FormatInt.f n = some (fmtB n) := by
 unfold impl_FormatInt.f
 simp only [strconv_Itoa_15.f, if_pos (show -9223372036854775808 ≤ n ∧ n ≤ 9223372036854775807 from ⟨h0, h1⟩), Option.bind_some]
 rfl

end Go.Proofs.YtlohmpgbjgidpaeDoor.Q
namespace Go.Proofs.YtlohmpgbjgidpaeDoor.Q
open Go.RowKit Go.Proofs.YtlohmpgbjgidpaeDoor.P Go.Proofs.YtlohmpgbjgidpaeDoorW.PrintWords Go.Proofs.YtlohmpgbjgidpaeDoorW.PrintLast
/- The two ParseInt functions: what strconv.Itoa writes is read back, all else is refused. -/
open Go.Lib (decDigits itoa atoiAll parseUint10 parseMag)
theorem parse_app : ∀ (l m : List UInt8) (a b : Nat), parseUint10 a l = .ok b → parseUint10 a (l ++ m) = parseUint10 b m
 | [], m, a, b, h => by
  simp only [parseUint10] at h
  injection h with h
  subst h
  rfl
 | c :: r, m, a, b, h => by
  rw [List.cons_append]
  simp only [parseUint10] at h ⊢
  split at h
  ·rename_i c1
   rw [if_pos c1]
   split at h
   ·cases h
   ·rename_i c2
    rw [if_neg c2]
    split at h
    ·cases h
    ·rename_i c3
     rw [if_neg c3]
     exact parse_app r m _ b h
  ·cases h
theorem dig_nat (d : Nat) (h : d < 10) : (UInt8.ofNat (48 + d)).toNat = 48 + d := by
 rw [UInt8.toNat_ofNat']
 omega
theorem parse_dec : ∀ u : Nat, u < 18446744073709551616 → parseUint10 0 (decDigits u) = .ok u := by
 intro u
 induction u using Nat.strongRecOn with
 | _ u ih =>
  intro hu
  by_cases h : u < 10
  ·rw [decDigits, dif_pos h]
   simp only [parseUint10, dig_nat u h]
   rw [if_pos (by omega), if_neg (by omega), if_neg (by omega)]
   congr 1
   omega
  ·rw [decDigits, dif_neg h, parse_app _ _ _ _ (ih (u / 10) (by omega) (by omega))]
   simp only [parseUint10, dig_nat (u % 10) (by omega)]
   rw [if_pos (by omega), if_neg (by omega), if_neg (by omega)]
   congr 1
   omega
/-- All bytes are digits. -/
theorem dec_all : ∀ (u : Nat), ∀ b ∈ decDigits u, 48 ≤ b.toNat ∧ b.toNat ≤ 57 := by
 intro u
 induction u using Nat.strongRecOn with
 | _ u ih =>
  intro b hb
  by_cases h : u < 10
  ·rw [decDigits, dif_pos h, List.mem_singleton] at hb
   rw [hb, dig_nat u h]
   omega
  ·rw [decDigits, dif_neg h, List.mem_append, List.mem_singleton] at hb
   rcases hb with hb | hb
   ·exact ih (u / 10) (by omega) b hb
   ·rw [hb, dig_nat (u % 10) (by omega)]
    omega
theorem dec_cons (u : Nat) : ∃ c r, decDigits u = c :: r := by
 cases e : decDigits u with
 | nil =>
  exfalso
  rw [decDigits] at e
  split at e <;> simp at e
 | cons c r => exact ⟨c, r, rfl⟩
theorem mag_dec (u : Nat) (h : u < 18446744073709551616) : parseMag (decDigits u) = .ok u := by
 unfold parseMag
 obtain ⟨c, r, e⟩ := dec_cons u
 rw [if_neg (by rw [e]; simp), parse_dec u h]
theorem atoi_itoa (v : Int) (h0 : -9223372036854775808 ≤ v) (h1 : v ≤ 9223372036854775807) : atoiAll (itoa v) = .ok v := by
 by_cases h : v < 0
 ·obtain ⟨u, rfl⟩ : ∃ u : Nat, v = -(u : Int) := ⟨v.natAbs, by omega⟩
  rw [Go.Lib.itoa_neg u (by omega), Go.Lib.atoiAll_minus, mag_dec u (by omega)]
  show (if 9223372036854775808 < u then Go.Lib.NumEnd.range else .ok (-(u : Int))) = _
  rw [if_neg (by omega)]
 ·obtain ⟨u, rfl⟩ : ∃ u : Nat, v = (u : Int) := ⟨v.toNat, by omega⟩
  rw [Go.Lib.itoa_nonneg]
  obtain ⟨c, r, e⟩ := dec_cons u
  have hc := dec_all u c (by rw [e]; exact List.mem_cons_self)
  rw [e, Go.Lib.atoiAll_plain c r (by omega) (by omega), ← e, mag_dec u (by omega)]
  show (if 9223372036854775808 ≤ u then Go.Lib.NumEnd.range else .ok (u : Int)) = _
  rw [if_neg (by omega)]
theorem fmt_list (v : Int) : (fmtB v).data.toList = itoa v := rfl
def inR (v : Int) : Prop := -9223372036854775808 ≤ v ∧ v ≤ 9223372036854775807
theorem impl_Parse_hit (v : Int) (h : inR v) : impl_ParseInt.f (fmtB v) = some (v, true) := by
 have hs : (fmtB v).size ≤ 281474976710656 := by
  have := Go.Lib.itoa_length_le v h.1 h.2
  have e : (fmtB v).size = (itoa v).length := bs_size _
  omega
 unfold impl_ParseInt.f
 rw [if_pos hs, fmt_list, atoi_itoa v h.1 h.2]
 simp only [impl_FormatInt_some v h.1 h.2, Option.bind_some, if_true]

end Go.Proofs.YtlohmpgbjgidpaeDoor.Q
namespace Go.Proofs.YtlohmpgbjgidpaeDoor.Q
open Go.RowKit Go.Proofs.YtlohmpgbjgidpaeDoor.P Go.Proofs.YtlohmpgbjgidpaeDoorW.PrintWords Go.Proofs.YtlohmpgbjgidpaeDoorW.PrintLast
/- The two SplitAny functions: a string is cut at every byte that the other one holds. -/
def hasFrom (b : ByteArray) (c : Int) (j : Nat) : Bool := (List.range' j (b.size - j)).any fun i => decide (c = bt b (i : Int))
theorem hasFrom_end (b : ByteArray) (c : Int) (j : Nat) (h : b.size ≤ j) : hasFrom b c j = false := by
 rw [hasFrom, show b.size - j = 0 by omega]; rfl
theorem hasFrom_step (b : ByteArray) (c : Int) (j : Nat) (h : j < b.size) : hasFrom b c j = (decide (c = bt b (j : Int)) || hasFrom b c (j + 1)) := by
 rw [hasFrom, show b.size - j = (b.size - (j + 1)) + 1 by omega, List.range'_succ, List.any_cons, ← hasFrom]
/-- The pieces, from place i on, where the last cut was at place m. -/
def splitF (s b : ByteArray) : Nat → Nat → Nat → List ByteArray → List ByteArray
 | 0, _, m, out => out ++ [s.extract m s.size]
 | d + 1, i, m, out => if hasFrom b (bt s (i : Int)) 0 = true then splitF s b d (i + 1) (i + 1) (out ++ [s.extract m i]) else splitF s b d (i + 1) m out
def splitB (s b : ByteArray) : List ByteArray := splitF s b s.size 0 0 []
theorem splitF_length (s b : ByteArray) : ∀ (d i m : Nat) (out : List ByteArray), (splitF s b d i m out).length ≤ out.length + d + 1
 | 0, i, m, out => by simp [splitF]
 | d + 1, i, m, out => by
  rw [splitF]
  split
  ·have := splitF_length s b d (i + 1) (i + 1) (out ++ [s.extract m i])
   simp only [List.length_append, List.length_cons, List.length_nil] at this
   omega
  ·have := splitF_length s b d (i + 1) m out
   omega
theorem byte_of (s : ByteArray) (i : Nat) (h : i < s.size) : (bt s (i : Int)).toNat.toUInt8 = s[i]'h := by
 rw [bdn s i h, Int.toNat_natCast]
 exact UInt8.ofNat_toNat
theorem index_has (s b : ByteArray) (i : Nat) (h : i < s.size) : decide (Lib.indexByte b.data.toList (bt s (i : Int)).toNat.toUInt8 ≥ 0) = hasFrom b (bt s (i : Int)) 0 := by
 rw [Bool.eq_iff_iff, decide_eq_true_eq, byte_of s i h, hasFrom, List.any_eq_true]
 constructor
 ·intro hg
  obtain ⟨o, ho⟩ := Int.eq_ofNat_of_zero_le hg
  have := (Lib.indexByte_some ho).1
  have hlt : o < b.data.toList.length := (List.getElem?_eq_some_iff.1 this).1
  rw [List.getElem?_eq_getElem hlt] at this
  have hlt' : o < b.size := by rwa [data_length] at hlt
  refine ⟨o, by simp [List.mem_range']; omega, ?_⟩
  rw [decide_eq_true_eq, bdn s i h, bdn b o hlt']
  have e : b[o] = s[i] := by have z := Option.some.inj this; rw [Array.getElem_toList] at z; exact z
  rw [e]
 ·rintro ⟨j, hj, hd⟩
  have hlt' : j < b.size := by simp [List.mem_range'] at hj; omega
  rw [decide_eq_true_eq, bdn s i h, bdn b j hlt'] at hd
  have e : s[i] = b[j] := UInt8.toNat_inj.mp (by omega)
  apply Classical.byContradiction
  intro hn
  have ge := Lib.indexByte_ge b.data.toList s[i]
  have := Lib.indexByte_none (l := b.data.toList) (c := s[i]) (by omega) j
  apply this
  rw [List.getElem?_eq_getElem (by rw [data_length]; omega), e, Array.getElem_toList]
  rfl
theorem impl_split_loop (s b : ByteArray) (hs : s.size ≤ 1048576) (hb : b.size ≤ 1048576) : ∀ (d i m : Nat) (out : List ByteArray), i + d = s.size → m ≤ i → out.length ≤ i →
  Ev (fun k => impl_SplitAny.l0 k s b out m i) (splitF s b d i m out) := by
 intro d
 induction d with
 | zero =>
  intro i m out h hm ho
  refine Ev.step (fun k => by rw [impl_SplitAny.l0]) (Ev.neg (by omega) (Ev.pos (by omega) (Ev.pos (by omega) (Ev.pos (by omega) ?_))))
  exact Ev.now _
 | succ d ih =>
  intro i m out h hm ho
  refine Ev.step (fun k => by rw [impl_SplitAny.l0]) (Ev.pos (by omega) (Ev.pos (by omega) ?_))
  refine Ev.plain (a := Lib.indexByte b.data.toList (bt s (i : Int)).toNat.toUInt8) rfl ?_
  have e := index_has s b i (by omega)
  rw [splitF]
  by_cases c : hasFrom b (bt s (i : Int)) 0 = true
  ·rw [if_pos c]
   rw [c] at e
   refine Ev.pos (of_decide_eq_true e) (Ev.pos (by omega) (Ev.pos (by omega) (Ev.pos (by omega) (Ev.pos (by omega) ?_))))
   rw [w64n (by omega), Int.toNat_natCast, Int.toNat_natCast]
   exact ih (i + 1) (i + 1) _ (by omega) (by omega) (by simp; omega)
  ·rw [if_neg c]
   rw [show hasFrom b (bt s (i : Int)) 0 = false by simpa using c] at e
   refine Ev.neg (of_decide_eq_false e) ?_
   rw [w64n (by omega)]
   exact ih (i + 1) m out (by omega) (by omega) (by omega)
theorem impl_SplitAny_ev (s b : ByteArray) (hs : s.size ≤ 1048576) (hb : b.size ≤ 1048576) : Ev (fun k => impl_SplitAny.f k s b) (splitB s b) :=
 Ev.same (fun k => by rw [impl_SplitAny.f]; rfl) (impl_split_loop s b hs hb s.size 0 0 [] (by omega) (by omega) (by simp))
theorem splitB_length (s b : ByteArray) : (splitB s b).length ≤ s.size + 1 := by
 have := splitF_length s b s.size 0 0 []
 simpa [splitB] using this

end Go.Proofs.YtlohmpgbjgidpaeDoor.Q
namespace Go.Proofs.YtlohmpgbjgidpaeDoor.Q
open Go.RowKit Go.Proofs.YtlohmpgbjgidpaeDoor.P Go.Proofs.YtlohmpgbjgidpaeDoorW.PrintWords Go.Proofs.YtlohmpgbjgidpaeDoorW.PrintLast
/- The two Join functions, and the laws' own handling of lists of strings. -/
/-- The strings, each behind the other, the separator between. -/
def joinL (xs : List ByteArray) (s : ByteArray) : List UInt8 := Lib.join (xs.map (·.data.toList)) s.data.toList
def joinB (xs : List ByteArray) (s : ByteArray) : ByteArray := ⟨(joinL xs s).toArray⟩
theorem joinTail_length (s : List UInt8) : ∀ r : List (List UInt8), (Lib.joinTail s r).length = (r.map List.length).sum + r.length * s.length
 | [] => by simp [Lib.joinTail]
 | x :: r => by
  have := joinTail_length s r
  unfold Lib.joinTail at *
  simp only [List.map_cons, List.flatten_cons, List.length_append, this, List.sum_cons, List.length_cons, Nat.succ_mul]
  omega
theorem joinL_length (xs : List ByteArray) (s : ByteArray) : (joinL xs s).length ≤ (xs.map ByteArray.size).sum + xs.length * s.size := by
 unfold joinL
 cases xs with
 | nil => simp [Lib.join_nil]
 | cons x r =>
  rw [List.map_cons, Lib.join_cons, List.length_append, joinTail_length, List.map_map, List.length_map, List.map_cons, List.sum_cons, List.length_cons, Nat.succ_mul, data_length, data_length]
  have : (r.map (List.length ∘ fun x : ByteArray => x.data.toList)) = r.map ByteArray.size := List.map_congr_left fun y _ => data_length y
  rw [this]
  omega
theorem joinTail_snoc (s : List UInt8) (r : List (List UInt8)) (x : List UInt8) : Lib.joinTail s (r ++ [x]) = Lib.joinTail s r ++ (s ++ x) := by
 unfold Lib.joinTail
 simp
theorem joinL_snoc (xs : List ByteArray) (x s : ByteArray) (h : xs ≠ []) : joinL (xs ++ [x]) s = joinL xs s ++ (s.data.toList ++ x.data.toList) := by
 unfold joinL
 cases xs with
 | nil => exact absurd rfl h
 | cons y r =>
  simp only [List.cons_append, List.map_cons, List.map_append, List.map_nil, Lib.join_cons, joinTail_snoc, List.append_assoc]
theorem impl_Join_some (xs : List ByteArray) (s : ByteArray) (hl : xs.length ≤ 1048576) (hs : (xs.map ByteArray.size).sum ≤ 1048576) (hb : s.size ≤ 1048576) : impl_Join.f xs s = some (joinB xs s) := by
 have a := joinL_length xs s
 have c : xs.length * s.size ≤ 1048576 * 1048576 := Nat.mul_le_mul hl hb
 unfold impl_Join.f strings_Join.f
 rw [if_pos ⟨by omega, by unfold joinL at a; omega⟩]
 rfl

end Go.Proofs.YtlohmpgbjgidpaeDoor.Q
namespace Go.Proofs.YtlohmpgbjgidpaeDoor.Q
open Go.RowKit Go.Proofs.YtlohmpgbjgidpaeDoor.P Go.Proofs.YtlohmpgbjgidpaeDoorW.PrintWords Go.Proofs.YtlohmpgbjgidpaeDoorW.PrintLast
/- Cutting a string at its newlines: the reference's pieces are strings.Split's. -/
abbrev nl : ByteArray := ⟨#[10]⟩
theorem nl_list : nl.data.toList = [10] := rfl
theorem has_nl (c : Int) : hasFrom nl c 0 = decide (c = 10) := by
 rw [hasFrom_step nl c 0 (by decide), hasFrom_end nl c (0 + 1) (by decide), Bool.or_false, show bt nl ((0 : Nat) : Int) = 10 from rfl]
theorem occ_one (l : List UInt8) (c : UInt8) (j : Nat) : Go.Lib.occAt l [c] j = decide (l[j]? = some c) := by
 unfold Go.Lib.occAt
 rw [show l[j]? = (l.drop j)[0]? by rw [List.getElem?_drop, Nat.add_zero]]
 cases l.drop j with
 | nil => simp
 | cons x r =>
  simp only [List.isPrefixOf, Bool.and_true, List.getElem?_cons_zero, Option.some.injEq]
  by_cases h : c = x
  ·subst h; simp
  ·rw [beq_eq_false_iff_ne.mpr h]
   simp only [Bool.false_eq, decide_eq_false_iff_not]
   exact fun e => h e.symm
theorem ext_list (s : ByteArray) (a b : Nat) : (s.extract a b).data.toList = (s.data.toList.drop a).take (b - a) := Go.Lib.extract_data s a b
theorem ext_end (s : ByteArray) (a : Nat) : (s.extract a s.size).data.toList = s.data.toList.drop a := by
 rw [ext_list, List.take_of_length_le (by rw [List.length_drop, data_length]; exact Nat.le_refl _)]
theorem at_list (s : ByteArray) (m j : Nat) : (s.data.toList.drop m)[j]? = some 10 ↔ m + j < s.size ∧ bt s ((m + j : Nat) : Int) = 10 := by
 rw [List.getElem?_drop]
 constructor
 ·intro h
  obtain ⟨hl, e⟩ := List.getElem?_eq_some_iff.1 h
  rw [data_length] at hl
  refine ⟨hl, ?_⟩
  rw [bdn s _ hl]
  have e' : s[m + j]'hl = 10 := e
  rw [e']
  rfl
 ·rintro ⟨hl, e⟩
  rw [bdn s _ hl] at e
  rw [List.getElem?_eq_getElem (by rw [data_length]; exact hl)]
  congr 1
  show s[m + j]'hl = 10
  apply UInt8.toNat_inj.1
  show (s[m + j]'hl).toNat = 10
  omega
theorem lines_eq (s : ByteArray) : ∀ (d i m : Nat) (out : List ByteArray), i + d = s.size → m ≤ i → (∀ j : Nat, m ≤ j → j < i → bt s (j : Int) ≠ 10) →
  splitF s nl d i m out = out ++ Go.Lib.splitB nl 0 (Go.Lib.countB (s.extract m s.size) nl) (s.extract m s.size)
 | 0, i, m, out, h, hm, hn => by
  have ix : Go.Lib.indexB (s.extract m s.size) nl = -1 := by
   show Go.Lib.index _ _ = -1
   rw [ext_end, nl_list]
   refine Go.Lib.index_none fun j hj => ?_
   rw [occ_one, decide_eq_false_iff_not, at_list]
   exact fun c => hn (m + j) (by omega) (by omega) c.2
  rw [splitF, Go.Lib.countB_miss _ _ ix, Go.Lib.splitB_zero]
 | d + 1, i, m, out, h, hm, hn => by
  rw [splitF, has_nl]
  by_cases c : bt s (i : Int) = 10
  ·rw [if_pos (by simpa using c)]
   have ix : Go.Lib.indexB (s.extract m s.size) nl = ((i - m : Nat) : Int) := by
    show Go.Lib.index _ _ = _
    rw [ext_end, nl_list]
    refine Go.Lib.index_first (by rw [List.length_drop, data_length]; omega) ?_ fun j hj => ?_
    ·rw [occ_one, decide_eq_true_iff, at_list, show m + (i - m) = i by omega]
     exact ⟨by omega, c⟩
    ·rw [occ_one, decide_eq_false_iff_not, at_list]
     exact fun c => hn (m + j) (by omega) (by omega) c.2
   have e1 : (s.extract m s.size).extract 0 (i - m + 0) = s.extract m i := by
    apply bytes_eq
    rw [ext_list, ext_end, ext_list, List.drop_zero]
    simp
   have e2 : (s.extract m s.size).extract (i - m + nl.size) (s.extract m s.size).size = s.extract (i + 1) s.size := by
    apply bytes_eq
    rw [ext_end, ext_end, ext_end, List.drop_drop, show m + (i - m + nl.size) = i + 1 by show m + (i - m + 1) = i + 1; omega]
   rw [Go.Lib.countB_hit _ _ _ (by decide) ix, Nat.add_comm 1, Go.Lib.splitB_hit _ _ _ _ _ ix, e1, e2, lines_eq s d (i + 1) (i + 1) _ (by omega) (Nat.le_refl _) (fun j a b => by omega)]
   simp
  ·rw [if_neg (by simpa using c)]
   exact lines_eq s d (i + 1) m out (by omega) (by omega) fun j a b => by
    by_cases q : j = i
    ·rw [q]; exact c
    ·exact hn j a (by omega)
theorem lines_all (s : ByteArray) : Go.Lib.splitB nl 0 (Go.Lib.countB s nl) s = splitB s nl := by
 have := lines_eq s s.size 0 0 [] (by omega) (Nat.le_refl _) (fun j a b => by omega)
 have e : s.extract 0 s.size = s := by
  apply bytes_eq
  rw [ext_end, List.drop_zero]
 rw [e, List.nil_append] at this
 rw [← this]
 rfl
theorem splitF_pos (s b : ByteArray) : ∀ (d i m : Nat) (out : List ByteArray), out.length < (splitF s b d i m out).length
 | 0, i, m, out => by simp [splitF]
 | d + 1, i, m, out => by
  rw [splitF]
  split
  ·have := splitF_pos s b d (i + 1) (i + 1) (out ++ [s.extract m i])
   simp only [List.length_append, List.length_cons, List.length_nil] at this
   omega
  ·exact splitF_pos s b d (i + 1) m out
/-- What SplitLines returns. -/
def linesB (s : ByteArray) : List ByteArray := if (rdOf ByteArray.empty (splitB s nl) (((splitB s nl).length : Int) - 1)).toList = ([] : List UInt8) then (splitB s nl).take ((((splitB s nl).length : Int) - 1)).toNat else splitB s nl
theorem impl_SplitLines_some (s : ByteArray) (hs : s.size ≤ 1048576) : impl_SplitLines.f s = some (linesB s) := by
 have hl := splitB_length s nl
 have hp : 0 < (splitB s nl).length := splitF_pos s nl s.size 0 0 []
 have w : wrap64 (((splitB s nl).length : Int) - 1) = ((splitB s nl).length : Int) - 1 := w64 (by omega) (by omega)
 unfold impl_SplitLines.f
 have e : strings_Split.f s nl = some (splitB s nl) := by
  unfold strings_Split.f
  rw [if_pos ⟨by omega, by decide⟩, lines_all]
 rw [show strings_Split.f s (⟨#[10]⟩ : ByteArray) = some (splitB s nl) from e, Option.bind_some, w, if_pos (by omega), if_pos (by omega)]
 unfold linesB
 by_cases c : (rdOf ByteArray.empty (splitB s nl) (((splitB s nl).length : Int) - 1)).toList = ([] : List UInt8)
 ·rw [if_pos c, if_pos c, if_pos (by omega)]
  simp only [Option.bind_some, List.length_nil, List.nil_append]
  rw [if_pos (by rw [List.length_take]; omega)]
 ·rw [if_neg c, if_neg c]
  simp only [Option.bind_some, List.length_nil, List.nil_append]
  rw [if_pos (by omega)]

end Go.Proofs.YtlohmpgbjgidpaeDoor.Q
namespace Go.Proofs.YtlohmpgbjgidpaeDoor.Q
open Go.RowKit Go.Proofs.YtlohmpgbjgidpaeDoor.P Go.Proofs.YtlohmpgbjgidpaeDoorW.PrintWords Go.Proofs.YtlohmpgbjgidpaeDoorW.PrintLast
/- A string cut at a byte and joined by it is the string again. -/
abbrev sp : ByteArray := ⟨#[32]⟩
theorem has_sp (c : Int) : hasFrom sp c 0 = decide (c = 32) := by
 rw [hasFrom_step sp c 0 (by decide), hasFrom_end sp c (0 + 1) (by decide), Bool.or_false, show bt sp ((0 : Nat) : Int) = 32 from rfl]
theorem joinL_one (x s : ByteArray) : joinL [x] s = x.data.toList := by
 unfold joinL
 simp [Lib.join_one]
theorem join_split (s : ByteArray) : ∀ (d i m : Nat) (out : List ByteArray), i + d = s.size → m ≤ i → joinL (splitF s sp d i m out) sp = (if out = [] then [] else joinL out sp ++ [32]) ++ s.data.toList.drop m
 | 0, i, m, out, h, hm => by
  rw [splitF]
  by_cases o : out = []
  ·subst o
   rw [if_pos rfl, List.nil_append, joinL_one, ext_end, List.nil_append]
  ·rw [if_neg o, joinL_snoc _ _ _ o, ext_end, List.append_assoc]
 | d + 1, i, m, out, h, hm => by
  rw [splitF, has_sp]
  by_cases c : bt s (i : Int) = 32
  ·rw [if_pos (by simpa using c), join_split s d (i + 1) (i + 1) _ (by omega) (Nat.le_refl _), if_neg (by simp)]
   have hi : i < s.data.toList.length := by rw [data_length]; omega
   have at_i : s.data.toList[i] = 32 := by
    rw [bdn s i (by omega)] at c
    apply UInt8.toNat_inj.1
    show (s[i]'(by omega)).toNat = 32
    omega
   have cut : (s.extract m i).data.toList ++ 32 :: s.data.toList.drop (i + 1) = s.data.toList.drop m := by
    rw [ext_list, ← at_i, ← List.drop_eq_getElem_cons hi]
    conv => rhs; rw [← List.take_append_drop (i - m) (s.data.toList.drop m), List.drop_drop, show m + (i - m) = i by omega]
   by_cases o : out = []
   ·subst o
    rw [if_pos rfl, List.nil_append, joinL_one, List.nil_append, List.append_assoc, List.singleton_append, cut]
   ·rw [if_neg o, joinL_snoc _ _ _ o, ← cut]
    show joinL out sp ++ ([32] ++ _) ++ [32] ++ _ = _
    simp [List.append_assoc]
  ·rw [if_neg (by simpa using c)]
   exact join_split s d (i + 1) m out (by omega) (by omega)
theorem join_all (s : ByteArray) : joinB (splitB s sp) sp = s := by
 apply bytes_eq
 show joinL (splitF s sp s.size 0 0 []) sp = _
 rw [join_split s s.size 0 0 [] (by omega) (Nat.le_refl _), if_pos rfl, List.nil_append, List.drop_zero]
theorem split_sum (s b : ByteArray) : ∀ (d i m : Nat) (out : List ByteArray), i + d = s.size → m ≤ i → ((splitF s b d i m out).map ByteArray.size).sum ≤ (out.map ByteArray.size).sum + (s.size - m)
 | 0, i, m, out, h, hm => by
  rw [splitF, List.map_append, List.sum_append]
  simp only [List.map_cons, List.map_nil, List.sum_cons, List.sum_nil, ByteArray.size_extract]
  omega
 | d + 1, i, m, out, h, hm => by
  rw [splitF]
  split
  ·have := split_sum s b d (i + 1) (i + 1) (out ++ [s.extract m i]) (by omega) (Nat.le_refl _)
   rw [List.map_append, List.sum_append] at this
   simp only [List.map_cons, List.map_nil, List.sum_cons, List.sum_nil, ByteArray.size_extract] at this
   omega
  ·exact split_sum s b d (i + 1) m out (by omega) (by omega)
theorem splitB_sum (s b : ByteArray) : ((splitB s b).map ByteArray.size).sum ≤ s.size := by
 have := split_sum s b s.size 0 0 [] (by omega) (Nat.le_refl _)
 simp only [List.map_nil, List.sum_nil, Nat.zero_add, Nat.sub_zero] at this
 exact this

end Go.Proofs.YtlohmpgbjgidpaeDoor.Q
namespace Go.Proofs.YtlohmpgbjgidpaeDoor.Q
open Go.RowKit Go.Proofs.YtlohmpgbjgidpaeDoor.P Go.Proofs.YtlohmpgbjgidpaeDoorW.PrintWords Go.Proofs.YtlohmpgbjgidpaeDoorW.PrintLast
/- The two IsName functions. -/
theorem impl_IsName_loop (s : ByteArray) (hn : s.size < 9223372036854775807) : ∀ (d i : Nat), i + d = s.size →
  Ev (fun k => impl_IsName.l0 k s i) (allFrom nameP s i && (decide (1 ≤ s.size) && decide (s.size ≤ 8))) := by
 intro d
 induction d with
 | zero =>
  intro i h
  refine Ev.step (fun k => by rw [impl_IsName.l0]) ?_
  refine Ev.neg (by omega) ?_
  rw [allFrom_end _ _ _ (by omega), Bool.true_and]
  by_cases h1 : (s.size : Int) ≥ 1
  ·refine Ev.pos h1 ?_
   rw [show decide (1 ≤ s.size) = true by simp; omega, Bool.true_and, show decide ((s.size : Int) ≤ 8) = decide (s.size ≤ 8) from decide_eq_decide.2 (by omega)]
   exact Ev.now _
  ·refine Ev.neg h1 ?_
   rw [decide_eq_false (show ¬ 1 ≤ s.size by omega), Bool.false_and]
   exact Ev.now _
 | succ d ih =>
  intro i h
  refine Ev.step (fun k => by rw [impl_IsName.l0]) ?_
  refine Ev.pos (by omega) (Ev.pos (by omega) ?_)
  rw [allFrom_step _ _ _ (by omega), w64n (by omega)]
  generalize bt s (i : Int) = c
  have hi := ih (i + 1) (by omega)
  by_cases h0 : nameP i c = true
  ·rw [h0, Bool.true_and]
   simp only [nameP, Bool.or_eq_true, Bool.and_eq_true, decide_eq_true_eq] at h0
   by_cases h1 : c ≥ 97
   ·by_cases h2 : c ≥ 48
    ·repeat (first | exact hi | refine Ev.pos (by omega) ?_ | refine Ev.neg (by omega) ?_)
    ·omega
   ·by_cases h2 : c ≥ 48
    ·repeat (first | exact hi | refine Ev.pos (by omega) ?_ | refine Ev.neg (by omega) ?_)
    ·omega
  ·rw [show nameP i c = false by simpa using h0, Bool.false_and]
   simp only [nameP, Bool.or_eq_true, Bool.and_eq_true, decide_eq_true_eq] at h0
   by_cases h1 : c ≥ 97
   ·by_cases h2 : (i : Int) = 0
    ·repeat (first | exact Ev.now _ | refine Ev.pos (by omega) ?_ | refine Ev.neg (by omega) ?_)
    ·repeat (first | exact Ev.now _ | refine Ev.pos (by omega) ?_ | refine Ev.neg (by omega) ?_)
   ·by_cases h2 : (i : Int) = 0
    ·by_cases h3 : c ≥ 48
     ·repeat (first | exact Ev.now _ | refine Ev.pos (by omega) ?_ | refine Ev.neg (by omega) ?_)
     ·repeat (first | exact Ev.now _ | refine Ev.pos (by omega) ?_ | refine Ev.neg (by omega) ?_)
    ·by_cases h3 : c ≥ 48
     ·repeat (first | exact Ev.now _ | refine Ev.pos (by omega) ?_ | refine Ev.neg (by omega) ?_)
     ·repeat (first | exact Ev.now _ | refine Ev.pos (by omega) ?_ | refine Ev.neg (by omega) ?_)
def isNameB (s : ByteArray) : Bool := allFrom nameP s 0 && (decide (1 ≤ s.size) && decide (s.size ≤ 8))
theorem impl_IsName_ev (s : ByteArray) (hn : s.size < 9223372036854775807) : Ev (fun k => impl_IsName.f k s) (isNameB s) :=
 Ev.same (fun k => by rw [impl_IsName.f]; rfl) (impl_IsName_loop s hn s.size 0 (by omega))

end Go.Proofs.YtlohmpgbjgidpaeDoor.Q
namespace Go.Proofs.YtlohmpgbjgidpaeDoor.Q
open Go.RowKit Go.Proofs.YtlohmpgbjgidpaeDoor.P Go.Proofs.YtlohmpgbjgidpaeDoorW.PrintWords Go.Proofs.YtlohmpgbjgidpaeDoorW.PrintLast
/- The texts that the laws draw. -/
abbrev fiveT : List ByteArray := [(⟨#[97]⟩ : ByteArray), (⟨#[98, 99]⟩ : ByteArray), (⟨#[32]⟩ : ByteArray), (⟨#[44]⟩ : ByteArray), (⟨#[120, 49]⟩ : ByteArray)]
theorem fiveT_at : ∀ n : Nat, n < 5 → (rdOf ByteArray.empty fiveT (n : Int)).size ≤ 2
 | 0, _ => by decide
 | 1, _ => by decide
 | 2, _ => by decide
 | 3, _ => by decide
 | 4, _ => by decide
 | n + 5, h => by omega
theorem strT_some (b : List Int) (hl : b.length < 4611686018427387904) (i h : Int) (h0 : 0 ≤ i) (h1 : i ≤ (b.length : Int)) : ∃ c i' h', spec_l01Str.f b i h fiveT = some (c, i', h') ∧ c.size ≤ 2 ∧ 0 ≤ i' ∧ i' ≤ (b.length : Int) := by
 obtain ⟨x, i', h', e, ⟨x0, x1⟩, a1, a2⟩ := below_some b i h 5 h0 h1 hl (by omega) (by omega)
 obtain ⟨n, rfl⟩ := Int.eq_ofNat_of_zero_le x0
 refine ⟨rdOf ByteArray.empty fiveT (n : Int), i', h', ?_, fiveT_at n (by omega), a1, a2⟩
 rw [spec_l01Str.f, show (fiveT.length : Int) = 5 from rfl, e, Option.bind_some]
 simp only
 rw [if_pos (by omega), if_pos (by omega)]
theorem text_loop (b : List Int) (hl : b.length < 4611686018427387904) : ∀ (d : Nat) (acc : ByteArray) (i h : Int), d ≤ 8 → acc.size + 2 * d ≤ 100 → 0 ≤ i → i ≤ (b.length : Int) →
  ∃ s, Ev (fun k => spec_MakeText.l0 k acc (d : Int) b i h) s ∧ s.size ≤ 100
 | 0, acc, i, h, _, ha, _, _ => ⟨acc, Ev.step (fun k => by rw [spec_MakeText.l0]) (Ev.neg (by omega) (Ev.now _)), by omega⟩
 | d + 1, acc, i, h, hd, ha, h0, h1 => by
  obtain ⟨c, i1, h1', e, cc, a1, a2⟩ := strT_some b hl i h h0 h1
  obtain ⟨s, es, ok⟩ := text_loop b hl d (acc ++ c) i1 h1' (by omega) (by rw [ByteArray.size_append]; omega) a1 a2
  refine ⟨s, Ev.step (fun k => by rw [spec_MakeText.l0]) (Ev.pos (by omega) (Ev.plain e ?_)), ok⟩
  refine Ev.pos (by simp only; omega) ?_
  simp only
  rw [show wrap64 (((d + 1 : Nat) : Int) - 1) = (d : Int) by rw [w64 (by omega) (by omega)]; omega]
  exact es
/-- Some short text. -/
theorem MakeText_ev (l : List Int) (hl : l.length < 4611686018427387904) : ∃ s, Ev (fun k => spec_MakeText.f k l) s ∧ s.size ≤ 100 := by
 obtain ⟨h, e⟩ := new_ev l hl
 obtain ⟨x, i1, h1, e1, ⟨x0, x1⟩, b0, b1⟩ := below_some l 0 h 8 (by omega) (by omega) hl (by omega) (by omega)
 obtain ⟨d, rfl⟩ := Int.eq_ofNat_of_zero_le x0
 obtain ⟨s, es, ok⟩ := text_loop l hl d (⟨#[]⟩ : ByteArray) i1 h1 (by omega) (by show 0 + 2 * d ≤ 100; omega) b0 b1
 exact ⟨s, Ev.same (fun k => by rw [spec_MakeText.f]) (Ev.bind e (Ev.plain e1 es)), ok⟩

end Go.Proofs.YtlohmpgbjgidpaeDoor.Q
namespace Go.Proofs.YtlohmpgbjgidpaeDoor.Pure
open Go.RowKit Go.Proofs.YtlohmpgbjgidpaeDoor.P Go.Proofs.YtlohmpgbjgidpaeDoorW.PrintWords Go.Proofs.YtlohmpgbjgidpaeDoorW.PrintLast Go.Proofs.YtlohmpgbjgidpaeDoor.Q

theorem FnWords : laws_FnWords.Pure := by
 intro l _ _ _
 refine Ev.out ?_
 refine Ev.same (fun k => by rw [laws_FnWords.f]) ?_
 by_cases h : (l.length : Int) > 1048576
 ·exact Ev.pos h (Ev.now _)
 refine Ev.neg h ?_
 obtain ⟨t, et, t0, t1⟩ := MakeNum_ev l (by omega) 1 (by omega)
 obtain ⟨s, es, ss⟩ := MakeText_ev l (by omega)
 have w : wrap64 (t - 30000) = t - 30000 := w64 (by omega) (by omega)
 have r : inR (t - 30000) := ⟨by omega, by omega⟩
 have le := splitB_length s sp
 have su := splitB_sum s sp
 refine Ev.bind et ?_
 rw [w]
 refine Ev.plain (impl_FormatInt_some _ r.1 r.2) (Ev.plain (impl_Parse_hit _ r) (Ev.bind es ?_))
 refine Ev.pos rfl (Ev.pos rfl ?_)
 refine Ev.bind (impl_SplitAny_ev s sp (by omega) (by decide)) (Ev.plain (impl_Join_some (splitB s sp) sp (by omega) (by omega) (by decide)) ?_)
 rw [join_all]
 refine Ev.pos rfl (Ev.bind (impl_IsName_ev _ (by decide)) ?_)
 rw [show isNameB (⟨#[120, 49]⟩ : ByteArray) = true by decide +kernel]
 refine Ev.pos rfl (Ev.plain (impl_SplitLines_some _ (by decide)) ?_)
 rw [show ((((linesB (⟨#[97, 10, 98, 10]⟩ : ByteArray)).length : Int) == 2)) = true by decide +kernel]
 exact Ev.now _

end Go.Proofs.YtlohmpgbjgidpaeDoor.Pure

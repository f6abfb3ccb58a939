import Derived.Test.YtlohmpgbjgidpaaWA
import Derived.Test.YtlohmpgbjgidpaaPx13
import Derived.Test.YtlohmpgbjgidpaaPx21
import Derived.Test.YtlohmpgbjgidpaaPx22
import Derived.Test.YtlohmpgbjgidpaaPx23
import Derived.Test.YtlohmpgbjgidpaaPx24
import Derived.Test.YtlohmpgbjgidpaaPx26
import Derived.Test.YtlohmpgbjgidpaaPx27
import Derived.Test.YtlohmpgbjgidpaaPx29
import Derived.Test.YtlohmpgbjgidpaaPx30
import Derived.Test.YtlohmpgbjgidpaaPx31
import Derived.Test.YtlohmpgbjgidpaaPx32
import Derived.Test.YtlohmpgbjgidpaaPx33
import Derived.Test.YtlohmpgbjgidpaaPx34
import Derived.Test.YtlohmpgbjgidpaaPx36
import Derived.Test.YtlohmpgbjgidpaaPx37
import Derived.Test.YtlohmpgbjgidpaaPx40
import Derived.Test.YtlohmpgbjgidpaaPx41
import Derived.Test.YtlohmpgbjgidpaaPx42
import Derived.Test.YtlohmpgbjgidpaaPx43
import Derived.Test.YtlohmpgbjgidpaaPx44
import Derived.Test.YtlohmpgbjgidpaaPx45
import Derived.Test.YtlohmpgbjgidpaaPx47
import Derived.Test.YtlohmpgbjgidpaaPx5
import Derived.Test.YtlohmpgbjgidpaaPx50
import Derived.Test.YtlohmpgbjgidpaaPx51
import Derived.Test.YtlohmpgbjgidpaaPx52
import Derived.Test.YtlohmpgbjgidpaaPx53
import Derived.Test.YtlohmpgbjgidpaaPx56
import Derived.Test.YtlohmpgbjgidpaaPx58
import Derived.Test.YtlohmpgbjgidpaaPx81
import Derived.Test.YtlohmpgbjgidpaaPx83
import Derived.Test.YtlohmpgbjgidpaaPx84
import Derived.Test.YtlohmpgbjgidpaaPx85
import Derived.Test.YtlohmpgbjgidpaaPx86
import Derived.Test.YtlohmpgbjgidpaaPx87
import Derived.Test.YtlohmpgbjgidpaaPx88
import Derived.Test.YtlohmpgbjgidpaaPx89
import Derived.Test.YtlohmpgbjgidpaaPx90
import Derived.Test.YtlohmpgbjgidpaaPx91
import Derived.Test.YtlohmpgbjgidpaaPx92
import Derived.Test.YtlohmpgbjgidpaaPx93
import Derived.Lib.SmallJoins
set_option linter.unusedVariables false
set_option linter.unusedSimpArgs false

namespace Go.Proofs.Ytlohmpgbjgidpaa.Q
open Go.RowKit Go.Proofs.Ytlohmpgbjgidpaa.P Go.Proofs.YtlohmpgbjgidpaaW.PrintWords Go.Proofs.YtlohmpgbjgidpaaW.PrintLast
theorem w64 {x : Int} (h : -9223372036854775808 ≤ x) (h' : x ≤ 9223372036854775807) : wrap64 x = x := by
 unfold wrap64; omega
theorem w64n {i : Nat} (h : i < 9223372036854775807) : wrap64 ((i : Int) + 1) = ((i + 1 : Nat) : Int) := by
 rw [w64 (by omega) (by omega)]; omega
theorem rdg {xs : List Int} {i : Nat} (h : i < xs.length) : rd xs (i : Int) = xs[i] := by simp [rd, h]
theorem bdn (s : ByteArray) (i : Nat) (h : i < s.size) : bt s (i : Int) = (s[i]'h).toNat := by simp [bt, h]
theorem Ev.plain {α β : Type} {x : Option α} {f : Nat → α → Option β} {a : α} {r : β} (h : x = some a) (k : Ev (fun n => f n a) r) : Ev (fun n => x.bind (f n)) r := by
 subst h; exact k
theorem Ev.pos {α : Type} {c : Prop} [Decidable c] {g f : Nat → Option α} {r : α} (h : c) (hg : Ev g r) : Ev (fun k => if c then g k else f k) r := by
 simp only [if_pos h]; exact hg
theorem Ev.neg {α : Type} {c : Prop} [Decidable c] {g f : Nat → Option α} {r : α} (h : ¬ c) (hf : Ev f r) : Ev (fun k => if c then g k else f k) r := by
 simp only [if_neg h]; exact hf
theorem Ev.out {α : Type} {g : Nat → Option α} {r : α} (h : Ev g r) : ∃ k, g k = some r := h.rounds
theorem Ev.same {α : Type} {g f : Nat → Option α} {r : α} (h : ∀ k, g k = f k) (hf : Ev f r) : Ev g r := Ev.congr h hf

end Go.Proofs.Ytlohmpgbjgidpaa.Q
namespace Go.Proofs.Ytlohmpgbjgidpaa.Q
open Go.RowKit Go.Proofs.Ytlohmpgbjgidpaa.P Go.Proofs.YtlohmpgbjgidpaaW.PrintWords Go.Proofs.YtlohmpgbjgidpaaW.PrintLast
theorem bytes_eq {s t : ByteArray} (h : s.data.toList = t.data.toList) : s = t := by
 cases s; cases t; simp only at h; congr; exact Array.toList_inj.mp h
def allFrom (p : Nat → Int → Bool) (s : ByteArray) (i : Nat) : Bool := (List.range' i (s.size - i)).all fun j => p j (bt s (j : Int))
theorem allFrom_end (p : Nat → Int → Bool) (s : ByteArray) (i : Nat) (h : s.size ≤ i) : allFrom p s i = true := by
 rw [allFrom, show s.size - i = 0 by omega]; rfl
theorem allFrom_step (p : Nat → Int → Bool) (s : ByteArray) (i : Nat) (h : i < s.size) : allFrom p s i = (p i (bt s (i : Int)) && allFrom p s (i + 1)) := by
 rw [allFrom, show s.size - i = (s.size - (i + 1)) + 1 by omega, List.range'_succ, List.all_cons]; rfl

end Go.Proofs.Ytlohmpgbjgidpaa.Q
namespace Go.Proofs.Ytlohmpgbjgidpaa.Q
open Go.RowKit Go.Proofs.Ytlohmpgbjgidpaa.P Go.Proofs.YtlohmpgbjgidpaaW.PrintWords Go.Proofs.YtlohmpgbjgidpaaW.PrintLast
def letterP (_ : Nat) (c : Int) : Bool := decide (c = 84) || (decide (c = 116) || (decide (c = 83) || decide (c = 115)))
def wordOkB (s : ByteArray) : Bool := decide (s.size ≤ 40) && allFrom letterP s 0
theorem index_letter : ∀ n : Nat, n < 256 → decide (Lib.indexByte [84, 116, 83, 115] n.toUInt8 < 0) = !letterP 0 (n : Int) := by decide +kernel
theorem impl_WordOk_loop (s : ByteArray) (hn : s.size < 9223372036854775807) : ∀ (d i : Nat), i + d = s.size →
  Ev (fun k => impl_WordOk.l0 k s i) (allFrom letterP s i && decide (s.size ≤ 40)) := by
 intro d
 induction d with
 | zero =>
  intro i h
  refine Ev.step (fun k => by rw [impl_WordOk.l0]) ?_
  refine Ev.neg (by omega) ?_
  rw [allFrom_end _ _ _ (by omega), Bool.true_and, show decide ((s.size : Int) ≤ 40) = decide (s.size ≤ 40) from decide_eq_decide.2 (by omega)]
  exact Ev.now _
 | succ d ih =>
  intro i h
  refine Ev.step (fun k => by rw [impl_WordOk.l0]) ?_
  refine Ev.pos (by omega) (Ev.pos (by omega) ?_)
  rw [allFrom_step _ _ _ (by omega), w64n (by omega)]
  have hb := bt_range s (i : Int)
  generalize bt s (i : Int) = c at *
  have hi := ih (i + 1) (by omega)
  refine Ev.plain (a := Lib.indexByte [84, 116, 83, 115] c.toNat.toUInt8) rfl ?_
  have hd := index_letter c.toNat (by omega)
  rw [show ((c.toNat : Nat) : Int) = c by omega] at hd
  by_cases h0 : letterP i c = true
  ·rw [h0, Bool.true_and]
   rw [show letterP 0 c = true from h0, Bool.not_true] at hd
   exact Ev.neg (of_decide_eq_false hd) hi
  ·have h1 : letterP i c = false := by simpa using h0
   rw [h1, Bool.false_and, Bool.false_and]
   rw [show letterP 0 c = false from h1, Bool.not_false] at hd
   exact Ev.pos (of_decide_eq_true hd) (Ev.now _)
theorem impl_WordOk_ev (s : ByteArray) (hn : s.size < 9223372036854775807) : Ev (fun k => impl_WordOk.f k s) (wordOkB s) := by
 rw [wordOkB, Bool.and_comm]
 exact Ev.same (fun k => by rw [impl_WordOk.f]; rfl) (impl_WordOk_loop s hn s.size 0 (by omega))

end Go.Proofs.Ytlohmpgbjgidpaa.Q
namespace Go.Proofs.Ytlohmpgbjgidpaa.Q
open Go.RowKit Go.Proofs.Ytlohmpgbjgidpaa.P Go.Proofs.YtlohmpgbjgidpaaW.PrintWords Go.Proofs.YtlohmpgbjgidpaaW.PrintLast
def flipped (s : ByteArray) : Nat → List UInt8
 | 0 => []
 | i + 1 => (if h : i < s.size then (s[i]'h) ^^^ 32 else 0) :: flipped s i
theorem flipped_length (s : ByteArray) : ∀ i, (flipped s i).length = i
 | 0 => rfl
 | i + 1 => by simp [flipped, flipped_length s i]
def ba (l : List UInt8) : ByteArray := ⟨l.toArray⟩
theorem ba_size (l : List UInt8) : (ba l).size = l.length := by simp [ba, ByteArray.size]
theorem ba_append (l m : List UInt8) : ba l ++ ba m = ba (l ++ m) := by
 apply bytes_eq
 rw [Go.Joins.data_append]
 simp [ba]
theorem letter_flip : ∀ n : Nat, n < 256 → letterP 0 (n : Int) = true → (n = 84 ∧ n.toUInt8 ^^^ 32 = 116) ∨ (n = 116 ∧ n.toUInt8 ^^^ 32 = 84) ∨ (n = 83 ∧ n.toUInt8 ^^^ 32 = 115) ∨ (n = 115 ∧ n.toUInt8 ^^^ 32 = 83) := by decide +kernel
theorem allFrom_at (p : Nat → Int → Bool) (s : ByteArray) (h : allFrom p s 0 = true) (i : Nat) (hi : i < s.size) : p i (bt s (i : Int)) = true := by
 rw [allFrom, List.all_eq_true] at h
 exact h i (by simp [List.mem_range']; omega)
theorem bits_flip : ∀ n : Nat, n < 256 → Go.bits .xor .u8 (n : Int) 32 = ((n.toUInt8 ^^^ 32).toNat : Int) := by decide +kernel
theorem str_of_bytes (l : List UInt8) : strOfNums (l.map fun b => (b.toNat : Int)) = ba l := by
 apply bytes_eq
 simp [strOfNums, ba, Function.comp_def]
theorem impl_inv_loop (s : ByteArray) (hs : s.size ≤ 40) : ∀ (i : Nat) (acc : List UInt8), i ≤ s.size → acc.length + i ≤ 100 →
  Ev (fun k => impl_InverseWord.l0 k s (acc.map fun b => (b.toNat : Int)) ((i : Int) - 1)) (ba (acc ++ flipped s i)) := by
 intro i
 induction i with
 | zero =>
  intro acc h ha
  refine Ev.step (fun k => by rw [impl_InverseWord.l0]) (Ev.neg (by omega) ?_)
  rw [flipped, List.append_nil, str_of_bytes]
  exact Ev.now _
 | succ i ih =>
  intro acc h ha
  refine Ev.step (fun k => by rw [impl_InverseWord.l0]) ?_
  rw [show ((i + 1 : Nat) : Int) - 1 = (i : Int) by omega, w64 (x := (i : Int) - 1) (by omega) (by omega)]
  refine Ev.pos (by omega) (Ev.pos (by omega) (Ev.pos (by omega) (Ev.pos (by rw [List.length_map]; omega) ?_)))
  have hb := bdn s i (by omega)
  have hu : (s[i]'(by omega)).toNat.toUInt8 = s[i]'(by omega) := UInt8.ofNat_toNat
  have hx := bits_flip (s[i]'(by omega)).toNat (by have := (s[i]'(by omega)).toNat_lt; omega)
  rw [hu] at hx
  rw [hb, hx]
  have := ih (acc ++ [(s[i]'(by omega)) ^^^ 32]) (by omega) (by simp; omega)
  rw [flipped, dif_pos (show i < s.size by omega)]
  simpa using this
def invWord (s : ByteArray) : ByteArray := if wordOkB s = true then ba (flipped s s.size) else ba []
theorem impl_InverseWord_ev (s : ByteArray) (hn : s.size < 9223372036854775807) : Ev (fun k => impl_InverseWord.f k s) (invWord s) := by
 refine Ev.same (fun k => by rw [impl_InverseWord.f]) (Ev.bind (impl_WordOk_ev s hn) ?_)
 by_cases h : wordOkB s = true
 ·have h2 := h
  rw [wordOkB, Bool.and_eq_true, decide_eq_true_eq] at h2
  rw [invWord, if_pos h]
  refine Ev.pos h ?_
  rw [w64 (by omega) (by omega)]
  exact impl_inv_loop s h2.1 s.size [] (by omega) (by simp; omega)
 ·rw [invWord, if_neg h]
  exact Ev.neg h (Ev.now _)

end Go.Proofs.Ytlohmpgbjgidpaa.Q
namespace Go.Proofs.Ytlohmpgbjgidpaa.Q
open Go.RowKit Go.Proofs.Ytlohmpgbjgidpaa.P Go.Proofs.YtlohmpgbjgidpaaW.PrintWords Go.Proofs.YtlohmpgbjgidpaaW.PrintLast
theorem slices_Equal_loop (xs ys : List Int) (hl : xs.length = ys.length) (hn : xs.length < 9223372036854775807) : ∀ (d : Nat) (i : Nat), i + d = xs.length →
  Ev (fun k => slices_Equal_int_int.l0 k xs ys (xs.length : Int) i) (decide (xs.drop i = ys.drop i)) := by
 intro d
 induction d with
 | zero =>
  intro i h
  refine Ev.step (fun k => by rw [slices_Equal_int_int.l0]) ?_
  repeat (first | refine Ev.pos (by omega) ?_ | refine Ev.neg (by omega) ?_)
  rw [List.drop_of_length_le (by omega), List.drop_of_length_le (by omega)]
  exact Ev.now _
 | succ d ih =>
  intro i h
  refine Ev.step (fun k => by rw [slices_Equal_int_int.l0]) ?_
  repeat (first | refine Ev.pos (by omega) ?_ | refine Ev.neg (by omega) ?_)
  rw [rdg (by omega), rdg (by omega), List.drop_eq_getElem_cons (l := xs) (i := i) (by omega), List.drop_eq_getElem_cons (l := ys) (i := i) (by omega)]
  by_cases e : xs[i] = ys[i]
  ·refine Ev.pos e ?_
   rw [w64n (by omega), decide_eq_decide.2 (show _ ↔ xs.drop (i + 1) = ys.drop (i + 1) from ⟨fun h => (List.cons.inj h).2, fun h => by rw [e, h]⟩)]
   exact ih (i + 1) (by omega)
  ·refine Ev.neg e ?_
   rw [decide_eq_false fun h => e (List.cons.inj h).1]
   exact Ev.now _
theorem slices_Equal_ev (xs ys : List Int) (hn : xs.length < 9223372036854775807) : Ev (fun k => slices_Equal_int_int.f k xs ys) (decide (xs = ys)) := by
 refine Ev.same (fun k => by rw [slices_Equal_int_int.f]) ?_
 by_cases h : xs.length = ys.length
 ·refine Ev.pos (by omega) ?_
  simpa using slices_Equal_loop xs ys h hn xs.length 0 (by omega)
 ·refine Ev.neg (by omega) ?_
  rw [decide_eq_false fun e => h (by rw [e])]
  exact Ev.now _
theorem impl_SameList_ev (xs ys : List Int) (hn : xs.length < 9223372036854775807) : Ev (fun k => impl_SameList.f k xs ys) (decide (xs = ys)) := by
 refine Ev.same (fun k => by rw [impl_SameList.f]) ?_
 exact Ev.bind (slices_Equal_ev xs ys hn) (Ev.now _)

end Go.Proofs.Ytlohmpgbjgidpaa.Q
namespace Go.Proofs.Ytlohmpgbjgidpaa.Q
open Go.RowKit Go.Proofs.Ytlohmpgbjgidpaa.P Go.Proofs.YtlohmpgbjgidpaaW.PrintWords Go.Proofs.YtlohmpgbjgidpaaW.PrintLast
def sameB (r u r' u' : List Int) : Bool := decide (r = r') && decide (u = u')
theorem impl_SameSurface_ev (r u r' u' : List Int) (hr : r.length < 9223372036854775807) (hu : u.length < 9223372036854775807) : Ev (fun k => impl_SameSurface.f k r u r' u') (sameB r u r' u') := by
 refine Ev.same (fun k => by rw [impl_SameSurface.f]) (Ev.bind (impl_SameList_ev r r' hr) ?_)
 unfold sameB
 by_cases e : r = r'
 ·rw [decide_eq_true e, Bool.true_and]
  exact Ev.pos rfl (Ev.bind (impl_SameList_ev u u' hu) (Ev.now _))
 ·rw [decide_eq_false e, Bool.false_and]
  exact Ev.neg (by simp) (Ev.now _)

end Go.Proofs.Ytlohmpgbjgidpaa.Q
namespace Go.Proofs.Ytlohmpgbjgidpaa.Q
open Go.RowKit Go.Proofs.Ytlohmpgbjgidpaa.P Go.Proofs.YtlohmpgbjgidpaaW.PrintWords Go.Proofs.YtlohmpgbjgidpaaW.PrintLast
def permFrom (n : Nat) : List Int → List Int → Bool
 | [], _ => true
 | x :: r, pre => (decide (0 ≤ x) && decide (x < (n : Int))) && (!(pre.contains x) && permFrom n r (pre ++ [x]))
def permB (l : List Int) : Bool := decide (l.length ≤ 24) && permFrom l.length l []
structure IsPerm (l : List Int) : Prop where
 lo : ∀ x ∈ l, 0 ≤ x
 hi : ∀ x ∈ l, x < (l.length : Int)
 nodup : l.Nodup
theorem permFrom_iff (n : Nat) : ∀ (r pre : List Int), permFrom n r pre = true ↔ (∀ x ∈ r, 0 ≤ x ∧ x < (n : Int)) ∧ (∀ x ∈ r, x ∉ pre) ∧ r.Nodup
 | [], pre => by simp [permFrom]
 | x :: r, pre => by
  rw [permFrom, Bool.and_eq_true, Bool.and_eq_true, Bool.and_eq_true, permFrom_iff n r (pre ++ [x])]
  simp only [decide_eq_true_eq, Bool.not_eq_true', List.mem_cons, forall_eq_or_imp, List.nodup_cons, List.mem_append, List.mem_singleton, not_or, List.contains_eq_mem, decide_eq_false_iff_not]
  constructor
  ·rintro ⟨⟨h1, h2⟩, h3, h4, h5, h6⟩
   exact ⟨⟨⟨h1, h2⟩, h4⟩, ⟨h3, fun y hy => (h5 y hy).1⟩, fun hx => (h5 x hx).2.1 rfl, h6⟩
  ·rintro ⟨⟨⟨h1, h2⟩, h4⟩, ⟨h3, h5⟩, h6, h7⟩
   exact ⟨⟨h1, h2⟩, h3, h4, fun y hy => ⟨h5 y hy, fun e => h6 (e ▸ hy), fun h => by cases h⟩, h7⟩
theorem permB_iff (l : List Int) : permB l = true ↔ l.length ≤ 24 ∧ IsPerm l := by
 rw [permB, Bool.and_eq_true, decide_eq_true_eq, permFrom_iff]
 exact ⟨fun ⟨a, b, _, d⟩ => ⟨a, fun x hx => (b x hx).1, fun x hx => (b x hx).2, d⟩, fun ⟨a, b⟩ => ⟨a, fun x hx => ⟨b.lo x hx, b.hi x hx⟩, (fun _ _ h => by cases h), b.nodup⟩⟩
theorem spec_has_loop (l : List Int) (x : Int) (hn : l.length < 9223372036854775807) : ∀ (d i : Nat), i + d = l.length → Ev (fun k => spec_l02Has.l0 k x l (l.length : Int) i) ((l.drop i).contains x) := by
 intro d
 induction d with
 | zero =>
  intro i h
  refine Ev.step (fun k => by rw [spec_l02Has.l0]) (Ev.neg (by omega) ?_)
  rw [List.drop_of_length_le (by omega)]
  exact Ev.now _
 | succ d ih =>
  intro i h
  refine Ev.step (fun k => by rw [spec_l02Has.l0]) (Ev.pos (by omega) (Ev.pos (by omega) (Ev.pos (by omega) ?_)))
  have hi := ih (i + 1) (by omega)
  rw [rdg (by omega), w64n (by omega), List.drop_eq_getElem_cons (by omega), List.contains_cons]
  by_cases e : l[i] = x
  ·refine Ev.pos e ?_
   rw [show (x == l[i]) = true by simp [e], Bool.true_or]
   exact Ev.now _
  ·refine Ev.neg e ?_
   rw [show (x == l[i]) = false by simpa using fun h => e h.symm, Bool.false_or]
   exact hi
theorem spec_has_ev (l : List Int) (x : Int) (hn : l.length < 9223372036854775807) : Ev (fun k => spec_l02Has.f k l x) (l.contains x) :=
 Ev.same (fun k => by rw [spec_l02Has.f]; rfl) (spec_has_loop l x hn l.length 0 (by omega))
theorem in_some (a lo hi : Int) : spec_l01In.f a lo hi = some (decide (lo ≤ a) && decide (a ≤ hi)) := by
 unfold spec_l01In.f
 by_cases h : a ≥ lo
 ·rw [if_pos h, decide_eq_true (show lo ≤ a from h), Bool.true_and]
 ·rw [if_neg h, decide_eq_false (show ¬ lo ≤ a from h), Bool.false_and]
theorem spec_perm_loop (l : List Int) (hn : l.length < 9223372036854775807) : ∀ (d i : Nat), i + d = l.length → Ev (fun k => spec_PermOk.l0 k l l (l.length : Int) i) (permFrom l.length (l.drop i) (l.take i)) := by
 intro d
 induction d with
 | zero =>
  intro i h
  refine Ev.step (fun k => by rw [spec_PermOk.l0]) (Ev.neg (by omega) ?_)
  rw [List.drop_of_length_le (by omega)]
  exact Ev.now _
 | succ d ih =>
  intro i h
  refine Ev.step (fun k => by rw [spec_PermOk.l0]) (Ev.pos (by omega) (Ev.pos (by omega) (Ev.pos (by omega) ?_)))
  have hi := ih (i + 1) (by omega)
  rw [rdg (by omega), w64n (by omega), List.drop_eq_getElem_cons (by omega), permFrom, ← List.take_succ_eq_append_getElem (by omega), w64 (by omega) (by omega)]
  refine Ev.plain (in_some _ _ _) ?_
  have e : (decide (0 ≤ l[i]) && decide (l[i] ≤ (l.length : Int) - 1)) = (decide (0 ≤ l[i]) && decide (l[i] < (l.length : Int))) := by
   rw [show decide (l[i] ≤ (l.length : Int) - 1) = decide (l[i] < (l.length : Int)) from decide_eq_decide.2 (by omega)]
  rw [e]
  by_cases c : (decide (0 ≤ l[i]) && decide (l[i] < (l.length : Int))) = true
  ·refine Ev.pos c (Ev.pos (by omega) ?_)
   rw [c, Bool.true_and, Int.toNat_natCast]
   refine Ev.bind (spec_has_ev _ _ (by rw [List.length_take]; omega)) ?_
   by_cases b : (l.take i).contains l[i] = true
   ·refine Ev.pos b ?_
    rw [b, Bool.not_true, Bool.false_and]
    exact Ev.now _
   ·refine Ev.neg b ?_
    rw [show (l.take i).contains l[i] = false by simpa using b, Bool.not_false, Bool.true_and]
    exact hi
  ·refine Ev.neg c ?_
   rw [show (decide (0 ≤ l[i]) && decide (l[i] < (l.length : Int))) = false by simpa using c, Bool.false_and]
   exact Ev.now _
theorem spec_PermOk_ev (l : List Int) (hn : l.length < 9223372036854775807) : Ev (fun k => spec_PermOk.f k l) (permB l) := by
 refine Ev.same (fun k => by rw [spec_PermOk.f]) ?_
 by_cases h : (l.length : Int) > 24
 ·refine Ev.pos h ?_
  rw [permB, decide_eq_false (show ¬ l.length ≤ 24 by omega), Bool.false_and]
  exact Ev.now _
 ·refine Ev.neg h ?_
  rw [permB, decide_eq_true (show l.length ≤ 24 by omega), Bool.true_and]
  exact spec_perm_loop l hn l.length 0 (by omega)
theorem permOkL_from (n : Nat) (hn : n ≤ 24) : ∀ (r pre : List Int) (seen : List Bool), seen.length = 24 → (∀ x : Int, 0 ≤ x → x < 24 → rdOf false seen x = pre.contains x) → permOkL r n seen = permFrom n r pre
 | [], pre, seen, hl, hs => rfl
 | x :: r, pre, seen, hl, hs => by
  rw [permOkL, permFrom]
  by_cases h1 : x < 0
  ·rw [if_pos h1, decide_eq_false (show ¬ 0 ≤ x by omega), Bool.false_and, Bool.false_and]
  rw [if_neg h1, decide_eq_true (show 0 ≤ x by omega), Bool.true_and]
  by_cases h2 : (n : Int) ≤ x
  ·rw [if_pos h2, decide_eq_false (show ¬ x < (n : Int) by omega), Bool.false_and]
  rw [if_neg h2, decide_eq_true (show x < (n : Int) by omega), Bool.true_and, hs x (by omega) (by omega)]
  by_cases h3 : pre.contains x = true
  ·rw [if_pos h3, h3, Bool.not_true, Bool.false_and]
  rw [if_neg h3, show pre.contains x = false by simpa using h3, Bool.not_false, Bool.true_and]
  refine permOkL_from n hn r _ _ (by rw [List.length_set, hl]) fun y hy0 hy1 => ?_
  have := hs y hy0 hy1
  simp only [rdOf] at this ⊢
  by_cases e : y = x
  ·subst e
   have hlt : y.toNat < seen.length := by omega
   simp [List.getD, hlt]
  ·have hne : x.toNat ≠ y.toNat := by omega
   have h4 : (pre ++ [x]).contains y = pre.contains y := by
    simp [e]
   rw [h4, ← this]
   simp [List.getD, List.getElem?_set_ne hne]
theorem rd_false (n : Nat) (x : Int) : rdOf false (List.replicate n false) x = false := by
 simp only [rdOf, List.getD, List.getElem?_replicate]
 split <;> rfl
theorem impl_PermOk_some (l : List Int) : impl_PermOk.f l = some (permB l) := by
 rw [impl_PermOk.f, permB]
 by_cases h : (l.length : Int) > 24
 ·rw [if_pos h, decide_eq_false (show ¬ l.length ≤ 24 by omega), Bool.false_and]
 ·rw [if_neg h, decide_eq_true (show l.length ≤ 24 by omega), Bool.true_and, permOkL_from l.length (by omega) l [] _ (by simp)]
  intro x h0 h1
  rw [rd_false]
  rfl

end Go.Proofs.Ytlohmpgbjgidpaa.Q
namespace Go.Proofs.Ytlohmpgbjgidpaa.Q
open Go.RowKit Go.Proofs.Ytlohmpgbjgidpaa.P Go.Proofs.YtlohmpgbjgidpaaW.PrintWords Go.Proofs.YtlohmpgbjgidpaaW.PrintLast
theorem pig : ∀ (n : Nat) (l : List Int), l.Nodup → (∀ x ∈ l, 0 ≤ x ∧ x < (n : Int)) → l.length ≤ n
 | 0, l, _, h => by
  cases l with
  | nil => simp
  | cons x r => have := h x (by simp); omega
 | n + 1, l, hd, h => by
  by_cases hm : (n : Int) ∈ l
  ·have := pig n (l.erase (n : Int)) (hd.erase _) (fun x hx => by
    have h1 := (hd.mem_erase_iff).1 hx
    have h2 := h x h1.2
    have h3 := h1.1
    omega)
   rw [List.length_erase_of_mem hm] at this
   omega
  ·have := pig n l hd (fun x hx => by
    have h2 := h x hx
    have : x ≠ (n : Int) := fun e => hm (e ▸ hx)
    omega)
   omega
theorem IsPerm.mem {p : List Int} (h : IsPerm p) {j : Int} (h0 : 0 ≤ j) (h1 : j < (p.length : Int)) : j ∈ p := by
 apply Classical.byContradiction
 intro hn
 have := pig p.length (j :: p) (List.nodup_cons.2 ⟨hn, h.nodup⟩) (fun x hx => by
  rcases List.mem_cons.1 hx with e | e
  ·subst e; exact ⟨h0, h1⟩
  ·exact ⟨h.lo x e, h.hi x e⟩)
 simp only [List.length_cons] at this
 omega
theorem IsPerm.get_lo {p : List Int} (h : IsPerm p) {i : Nat} (hi : i < p.length) : 0 ≤ p[i] := h.lo _ (List.getElem_mem hi)
theorem IsPerm.get_hi {p : List Int} (h : IsPerm p) {i : Nat} (hi : i < p.length) : p[i] < (p.length : Int) := h.hi _ (List.getElem_mem hi)
theorem IsPerm.inj {p : List Int} (h : IsPerm p) {i j : Nat} (hi : i < p.length) (hj : j < p.length) (e : p[i] = p[j]) : i = j := by
 have H := List.pairwise_iff_getElem.1 h.nodup
 rcases Nat.lt_trichotomy i j with hlt | he | hgt
 ·exact absurd e (H i j hi hj hlt)
 ·exact he
 ·exact absurd e.symm (H j i hj hi hgt)
def posOf (p : List Int) (j : Int) : Nat := p.idxOf j
theorem posOf_lt {p : List Int} {j : Int} (h : j ∈ p) : posOf p j < p.length := List.idxOf_lt_length_iff.2 h
theorem posOf_get {p : List Int} {j : Int} (h : j ∈ p) : p[posOf p j]'(posOf_lt h) = j := by
 unfold posOf; exact List.getElem_idxOf (posOf_lt h)
theorem IsPerm.posOf_at {p : List Int} (h : IsPerm p) {i : Nat} (hi : i < p.length) : posOf p p[i] = i :=
 h.inj (posOf_lt (List.getElem_mem hi)) hi (posOf_get (List.getElem_mem hi))
def invL (p : List Int) : List Int := (List.range p.length).map fun (j : Nat) => (posOf p (j : Int) : Int)
def thenL (p q : List Int) : List Int := p.map (rd q ·)
def renL (p q : List Int) : List Int := thenL (invL q) (thenL p q)
theorem invL_length (p : List Int) : (invL p).length = p.length := by simp [invL]
theorem thenL_length (p q : List Int) : (thenL p q).length = p.length := by simp [thenL]
theorem renL_length (p q : List Int) : (renL p q).length = q.length := by simp [renL, thenL, invL]
theorem invL_get (p : List Int) {j : Nat} (h : j < p.length) : (invL p)[j]'(by rw [invL_length]; exact h) = (posOf p (j : Int) : Int) := by simp [invL]
theorem thenL_get (p q : List Int) {j : Nat} (h : j < p.length) : (thenL p q)[j]'(by rw [thenL_length]; exact h) = rd q p[j] := by simp [thenL]
theorem rd_of {q : List Int} {x : Int} (h0 : 0 ≤ x) (h1 : x < (q.length : Int)) : rd q x = q[x.toNat]'(by omega) := by
 obtain ⟨n, rfl⟩ := Int.eq_ofNat_of_zero_le h0
 rw [rdg (by omega)]
 simp
theorem nodup_of_inj {l : List Int} (h : ∀ (i j : Nat) (hi : i < l.length) (hj : j < l.length), l[i] = l[j] → i = j) : l.Nodup := by
 refine List.pairwise_iff_getElem.2 fun i j hi hj hlt e => ?_
 have := h i j hi hj e
 omega
theorem IsPerm.mk' {l : List Int} (hb : ∀ (i : Nat) (hi : i < l.length), 0 ≤ l[i] ∧ l[i] < (l.length : Int)) (h : ∀ (i j : Nat) (hi : i < l.length) (hj : j < l.length), l[i] = l[j] → i = j) : IsPerm l where
 lo := fun x hx => by obtain ⟨i, hi, rfl⟩ := List.getElem_of_mem hx; exact (hb i hi).1
 hi := fun x hx => by obtain ⟨i, hi, rfl⟩ := List.getElem_of_mem hx; exact (hb i hi).2
 nodup := nodup_of_inj h
theorem IsPerm.inv {p : List Int} (h : IsPerm p) : IsPerm (invL p) := by
 refine IsPerm.mk' (fun i hi => ?_) (fun i j hi hj e => ?_)
 ·rw [invL_length] at hi
  rw [invL_get p hi, invL_length]
  have := posOf_lt (h.mem (j := (i : Int)) (by omega) (by omega))
  omega
 ·rw [invL_length] at hi hj
  rw [invL_get p hi, invL_get p hj] at e
  have a := h.mem (j := (i : Int)) (by omega) (by omega)
  have b := h.mem (j := (j : Int)) (by omega) (by omega)
  have e' : posOf p (i : Int) = posOf p (j : Int) := by omega
  have := posOf_get a
  have := posOf_get b
  simp only [e'] at *
  omega
theorem IsPerm.then {p q : List Int} (h : IsPerm p) (hq : IsPerm q) (hl : p.length = q.length) : IsPerm (thenL p q) := by
 refine IsPerm.mk' (fun i hi => ?_) (fun i j hi hj e => ?_)
 ·rw [thenL_length] at hi
  rw [thenL_get p q hi, thenL_length]
  have a := h.get_lo hi
  have b := h.get_hi hi
  rw [rd_of a (by omega)]
  have := hq.get_lo (i := p[i].toNat) (by omega)
  have := hq.get_hi (i := p[i].toNat) (by omega)
  omega
 ·rw [thenL_length] at hi hj
  rw [thenL_get p q hi, thenL_get p q hj] at e
  have a := h.get_lo hi
  have b := h.get_hi hi
  have c := h.get_lo hj
  have d := h.get_hi hj
  rw [rd_of a (by omega), rd_of c (by omega)] at e
  have := hq.inj (by omega) (by omega) e
  exact h.inj hi hj (by omega)

end Go.Proofs.Ytlohmpgbjgidpaa.Q
namespace Go.Proofs.Ytlohmpgbjgidpaa.Q
open Go.RowKit Go.Proofs.Ytlohmpgbjgidpaa.P Go.Proofs.YtlohmpgbjgidpaaW.PrintWords Go.Proofs.YtlohmpgbjgidpaaW.PrintLast
def addNew (out : List Int) (x : Int) : List Int := if out.contains x = true then out else out ++ [x]
def reachF (p q : List Int) : Nat → List Int → Nat → List Int
 | 0, out, _ => out
 | d + 1, out, a => if a < out.length then reachF p q d (addNew (addNew out (rd p (rd out (a : Int)))) (rd q (rd out (a : Int)))) (a + 1) else out
theorem wr1 : wrap64 (0 + 1) = 1 := w64 (by omega) (by omega)
theorem wr2 : wrap64 (1 + 1) = 2 := w64 (by omega) (by omega)
def reachL (p q : List Int) (s : Int) : List Int := reachF p q (p.length + 1) [s] 0
structure Few (n : Nat) (out : List Int) : Prop where
 lo : ∀ x ∈ out, 0 ≤ x
 hi : ∀ x ∈ out, x < (n : Int)
 nodup : out.Nodup
theorem Few.len {n : Nat} {out : List Int} (h : Few n out) : out.length ≤ n := pig n out h.nodup fun x hx => ⟨h.lo x hx, h.hi x hx⟩
theorem Few.perm {n : Nat} {out : List Int} (h : Few n out) (e : out.length = n) : IsPerm out := ⟨h.lo, by rw [e]; exact h.hi, h.nodup⟩
theorem mem_addNew {out : List Int} {x y : Int} : y ∈ addNew out x ↔ y ∈ out ∨ y = x := by
 unfold addNew
 split
 ·rename_i h
  constructor
  ·exact .inl
  ·rintro (h' | rfl)
   ·exact h'
   ·simpa using h
 ·simp
theorem Few.add {n : Nat} {out : List Int} (h : Few n out) {x : Int} (h0 : 0 ≤ x) (h1 : x < (n : Int)) : Few n (addNew out x) where
 lo := fun y hy => (mem_addNew.1 hy).elim (h.lo y) fun e => by rw [e]; exact h0
 hi := fun y hy => (mem_addNew.1 hy).elim (h.hi y) fun e => by rw [e]; exact h1
 nodup := by
  unfold addNew
  split
  ·exact h.nodup
  ·rename_i h'
   rw [List.nodup_append]
   refine ⟨h.nodup, by simp, ?_⟩
   intro a ha b hb e
   simp only [List.mem_singleton] at hb
   subst hb; subst e
   exact h' (by simpa using ha)
theorem addNew_length (out : List Int) (x : Int) : out.length ≤ (addNew out x).length := by
 unfold addNew
 split
 ·omega
 ·simp
theorem addNew_get (out : List Int) (x : Int) {i : Nat} (h : i < out.length) : (addNew out x)[i]'(by have := addNew_length out x; omega) = out[i] := by
 unfold addNew
 split
 ·rfl
 ·rw [List.getElem_append_left h]
theorem rd_perm {p : List Int} (hp : IsPerm p) {x : Int} (h0 : 0 ≤ x) (h1 : x < (p.length : Int)) : 0 ≤ rd p x ∧ rd p x < (p.length : Int) := by
 rw [rd_of h0 h1]
 exact ⟨hp.get_lo _, hp.get_hi _⟩
theorem rd_mem {out : List Int} {a : Nat} (h : a < out.length) : rd out (a : Int) ∈ out := by rw [rdg h]; exact List.getElem_mem h
theorem reachF_all (p q : List Int) (hp : IsPerm p) (hq : IsPerm q) (hl : p.length = q.length) : ∀ (d a : Nat) (out : List Int), p.length + 1 ≤ a + d → a ≤ out.length → Few p.length out →
  (∀ (i : Nat), i < a → rd p (rd out (i : Int)) ∈ out ∧ rd q (rd out (i : Int)) ∈ out) →
  Few p.length (reachF p q d out a) ∧ (∀ x ∈ reachF p q d out a, rd p x ∈ reachF p q d out a ∧ rd q x ∈ reachF p q d out a) ∧ (∀ x ∈ out, x ∈ reachF p q d out a) ∧
  (∀ S : Int → Prop, (∀ x, 0 ≤ x → x < (p.length : Int) → S x → S (rd p x) ∧ S (rd q x)) → (∀ x ∈ out, S x) → ∀ x ∈ reachF p q d out a, S x)
 | 0, a, out, h, ha, hf, hc => by have := hf.len; omega
 | d + 1, a, out, h, ha, hf, hc => by
  rw [reachF]
  by_cases c : a < out.length
  ·rw [if_pos c]
   have m := rd_mem c
   have x0 := hf.lo _ m
   have x1 := hf.hi _ m
   have bp := rd_perm hp x0 x1
   have bq := rd_perm hq x0 (by omega)
   have f1 := hf.add bp.1 bp.2
   have f2 := f1.add bq.1 (by omega)
   have l1 := addNew_length out (rd p (rd out (a : Int)))
   have l2 := addNew_length (addNew out (rd p (rd out (a : Int)))) (rd q (rd out (a : Int)))
   have same : ∀ i : Nat, i < out.length → rd (addNew (addNew out (rd p (rd out (a : Int)))) (rd q (rd out (a : Int)))) (i : Int) = rd out (i : Int) := fun i hi => by
    rw [rdg (xs := addNew _ _) (by omega), addNew_get _ _ (by omega), addNew_get _ _ hi, rdg hi]
   obtain ⟨r1, r2, r3, r4⟩ := reachF_all p q hp hq hl d (a + 1) _ (by omega) (by omega) f2 (fun i hi => by
    rw [same i (by omega)]
    by_cases e : i = a
    ·subst e
     exact ⟨mem_addNew.2 (.inl (mem_addNew.2 (.inr rfl))), mem_addNew.2 (.inr rfl)⟩
    ·have := hc i (by omega)
     exact ⟨mem_addNew.2 (.inl (mem_addNew.2 (.inl this.1))), mem_addNew.2 (.inl (mem_addNew.2 (.inl this.2)))⟩)
   refine ⟨r1, r2, fun x hx => r3 x (mem_addNew.2 (.inl (mem_addNew.2 (.inl hx)))), fun S hS h0 => r4 S hS fun x hx => ?_⟩
   have sx := hS _ x0 x1 (h0 _ m)
   rcases mem_addNew.1 hx with h' | rfl
   ·rcases mem_addNew.1 h' with h'' | rfl
    ·exact h0 x h''
    ·exact sx.1
   ·exact sx.2
  ·rw [if_neg c]
   refine ⟨hf, fun x hx => ?_, fun x hx => hx, fun S hS h0 => h0⟩
   obtain ⟨i, hi, rfl⟩ := List.getElem_of_mem hx
   have := hc i (by omega)
   rwa [rdg hi] at this
theorem few_one {n : Nat} {s : Int} (h0 : 0 ≤ s) (h1 : s < (n : Int)) : Few n [s] := ⟨by simpa using h0, by simpa using h1, by simp⟩
theorem reachL_all (p q : List Int) (hp : IsPerm p) (hq : IsPerm q) (hl : p.length = q.length) {s : Int} (h0 : 0 ≤ s) (h1 : s < (p.length : Int)) :
  Few p.length (reachL p q s) ∧ (∀ x ∈ reachL p q s, rd p x ∈ reachL p q s ∧ rd q x ∈ reachL p q s) ∧ s ∈ reachL p q s ∧
  (∀ S : Int → Prop, (∀ x, 0 ≤ x → x < (p.length : Int) → S x → S (rd p x) ∧ S (rd q x)) → S s → ∀ x ∈ reachL p q s, S x) := by
 have := reachF_all p q hp hq hl (p.length + 1) 0 [s] (by omega) (by simp) (few_one h0 h1) (fun i hi => by omega)
 exact ⟨this.1, this.2.1, this.2.2.1 s (by simp), fun S hS hs => this.2.2.2 S hS (by simpa using hs)⟩
theorem spec_reach_loop (p q : List Int) (hp : IsPerm p) (hq : IsPerm q) (hl : p.length = q.length) (hn : p.length ≤ 24) : ∀ (d a : Nat) (out : List Int), p.length + 1 ≤ a + d → a ≤ out.length → Few p.length out →
  Ev (fun k => spec_l02Reach.l0 k p q out (a : Int)) (reachF p q d out a) := by
 intro d
 induction d with
 | zero => intro a out h ha hf; have := hf.len; omega
 | succ d ih =>
  intro a out h ha hf
  have len := hf.len
  refine Ev.step (fun k => by rw [spec_l02Reach.l0]) ?_
  rw [reachF]
  by_cases c : a < out.length
  ·rw [if_pos c]
   have m := rd_mem c
   have x0 := hf.lo _ m
   have x1 := hf.hi _ m
   have bp := rd_perm hp x0 x1
   have bq := rd_perm hq x0 (by omega)
   have f1 := hf.add bp.1 bp.2
   have f2 := f1.add bq.1 (by omega)
   have l1 := addNew_length out (rd p (rd out (a : Int)))
   have l2 := addNew_length (addNew out (rd p (rd out (a : Int)))) (rd q (rd out (a : Int)))
   have n1 := f1.len
   have n2 := f2.len
   have next := ih (a + 1) _ (by omega) (by omega) f2
   refine Ev.pos (by omega) (Ev.pos (by omega) (Ev.pos x0 (Ev.pos x1 (Ev.pos (by omega) (Ev.plain rfl ?_)))))
   generalize rd p (rd out (a : Int)) = x at *
   generalize rd q (rd out (a : Int)) = y at *
   have r0 : rd [x, y] 0 = x := rfl
   have r1 : rd [x, y] 1 = y := rfl
   have tail : ∀ o : List Int, o.length ≤ 24 → addNew o y = addNew (addNew out x) y → Ev (fun k => spec_l02Reach.l1 k p q o (a : Int) [x, y] 2 1) (reachF p q d (addNew (addNew out x) y) (a + 1)) := by
    intro o ho e
    refine Ev.step (fun k => by rw [spec_l02Reach.l1]) (Ev.pos (by omega) (Ev.pos (by omega) (Ev.pos (by simp) ?_)))
    rw [r1]
    refine Ev.bind (spec_has_ev o y (by omega)) ?_
    by_cases b : o.contains y = true
    ·refine Ev.pos b (Ev.step (fun k => by rw [spec_l02Reach.l1]) (Ev.neg (by rw [wr2]; omega) ?_))
     rw [w64n (by omega)]
     rw [addNew, if_pos b] at e
     rw [e]; exact next
    ·refine Ev.neg b (Ev.pos (by omega) (Ev.step (fun k => by rw [spec_l02Reach.l1]) (Ev.neg (by rw [wr2]; omega) ?_)))
     rw [w64n (by omega)]
     rw [addNew, if_neg b] at e
     rw [e]; exact next
   refine Ev.step (fun k => by rw [spec_l02Reach.l1]) (Ev.pos (by simp) (Ev.pos (by omega) (Ev.pos (by simp) ?_)))
   rw [r0, wr1]
   refine Ev.bind (spec_has_ev out x (by omega)) ?_
   by_cases b : out.contains x = true
   ·refine Ev.pos b ?_
    exact tail out (by omega) (by rw [show addNew out x = out by rw [addNew, if_pos b]])
   ·refine Ev.neg b (Ev.pos (by omega) ?_)
    have e : addNew out x = out ++ [x] := by rw [addNew, if_neg b]
    rw [← e]
    exact tail _ (by omega) rfl
  ·rw [if_neg c]
   exact Ev.neg (by omega) (Ev.now _)
theorem spec_l02Reach_ev (p q : List Int) (hp : IsPerm p) (hq : IsPerm q) (hl : p.length = q.length) (hn : p.length ≤ 24) {s : Int} (h0 : 0 ≤ s) (h1 : s < (p.length : Int)) : Ev (fun k => spec_l02Reach.f k p q s) (reachL p q s) :=
 Ev.same (fun k => by rw [spec_l02Reach.f]; rfl) (spec_reach_loop p q hp hq hl hn (p.length + 1) 0 [s] (by omega) (by simp) (few_one h0 h1))

end Go.Proofs.Ytlohmpgbjgidpaa.Q
namespace Go.Proofs.Ytlohmpgbjgidpaa.Q
open Go.RowKit Go.Proofs.Ytlohmpgbjgidpaa.P Go.Proofs.YtlohmpgbjgidpaaW.PrintWords Go.Proofs.YtlohmpgbjgidpaaW.PrintLast
theorem seen_set {seen : List Bool} {out : List Int} {n : Nat} (hl : seen.length = n) (hs : ∀ x : Int, 0 ≤ x → x < (n : Int) → rdOf false seen x = out.contains x) {y : Int} (h0 : 0 ≤ y) (h1 : y < (n : Int)) :
  ∀ x : Int, 0 ≤ x → x < (n : Int) → rdOf false (seen.set y.toNat true) x = (out ++ [y]).contains x := by
 intro x x0 x1
 have := hs x x0 x1
 simp only [rdOf] at this ⊢
 by_cases e : x = y
 ·subst e
  have hlt : x.toNat < seen.length := by omega
  simp [List.getD, hlt]
 ·have hne : y.toNat ≠ x.toNat := by omega
  have h4 : (out ++ [y]).contains x = out.contains x := by simp [e]
  rw [h4, ← this]
  simp [List.getD, List.getElem?_set_ne hne]
theorem impl_trans_loop (p q : List Int) (hp : IsPerm p) (hq : IsPerm q) (hl : p.length = q.length) (hn : p.length ≤ 24) : ∀ (d a : Nat) (out : List Int) (seen : List Bool), p.length + 1 ≤ a + d → a ≤ out.length → Few p.length out →
  seen.length = p.length → (∀ x : Int, 0 ≤ x → x < (p.length : Int) → rdOf false seen x = out.contains x) →
  Ev (fun k => impl_IsTransitive.l0 k p q seen out (a : Int)) (decide ((reachF p q d out a).length = p.length)) := by
 intro d
 induction d with
 | zero => intro a out seen h ha hf; have := hf.len; omega
 | succ d ih =>
  intro a out seen h ha hf sl hs
  have len := hf.len
  refine Ev.step (fun k => by rw [impl_IsTransitive.l0]) ?_
  rw [reachF]
  by_cases c : a < out.length
  ·rw [if_pos c]
   have m := rd_mem c
   have x0 := hf.lo _ m
   have x1 := hf.hi _ m
   have bp := rd_perm hp x0 x1
   have bq := rd_perm hq x0 (by omega)
   have f1 := hf.add bp.1 bp.2
   have f2 := f1.add bq.1 (by omega)
   have l1 := addNew_length out (rd p (rd out (a : Int)))
   have l2 := addNew_length (addNew out (rd p (rd out (a : Int)))) (rd q (rd out (a : Int)))
   have n1 := f1.len
   have n2 := f2.len
   have next := fun s => ih (a + 1) _ s (by omega) (by omega) f2
   refine Ev.pos (by omega) (Ev.pos (by omega) (Ev.pos x0 (Ev.pos x1 (Ev.pos (by omega) (Ev.plain rfl ?_)))))
   rw [← hl] at bq
   generalize rd p (rd out (a : Int)) = x at *
   generalize rd q (rd out (a : Int)) = y at *
   have r0 : rd [x, y] 0 = x := rfl
   have r1 : rd [x, y] 1 = y := rfl
   have tail : ∀ (o : List Int) (s : List Bool), o.length ≤ 24 → addNew o y = addNew (addNew out x) y → s.length = p.length → (∀ x : Int, 0 ≤ x → x < (p.length : Int) → rdOf false s x = o.contains x) →
     Ev (fun k => impl_IsTransitive.l1 k p q s o (a : Int) [x, y] 2 1) (decide ((reachF p q d (addNew (addNew out x) y) (a + 1)).length = p.length)) := by
    intro o s ho e hsl hso
    refine Ev.step (fun k => by rw [impl_IsTransitive.l1]) (Ev.pos (by omega) (Ev.pos (by omega) (Ev.pos (by simp) ?_)))
    rw [r1]
    refine Ev.pos (by omega) (Ev.pos (by omega) ?_)
    rw [hso y bq.1 bq.2]
    by_cases b : o.contains y = true
    ·refine Ev.pos b (Ev.step (fun k => by rw [impl_IsTransitive.l1]) (Ev.neg (by rw [wr2]; omega) ?_))
     rw [w64n (by omega)]
     rw [addNew, if_pos b] at e
     rw [← e] at next
     rw [← e]
     exact next s hsl hso
    ·refine Ev.neg b (Ev.pos (by omega) (Ev.step (fun k => by rw [impl_IsTransitive.l1]) (Ev.neg (by rw [wr2]; omega) ?_)))
     rw [w64n (by omega)]
     rw [addNew, if_neg b] at e
     rw [← e] at next
     rw [← e]
     exact next _ (by rw [List.length_set, hsl]) (seen_set hsl hso bq.1 bq.2)
   refine Ev.step (fun k => by rw [impl_IsTransitive.l1]) (Ev.pos (by simp) (Ev.pos (by omega) (Ev.pos (by simp) ?_)))
   rw [r0, wr1]
   refine Ev.pos (by omega) (Ev.pos (by omega) ?_)
   rw [hs x bp.1 bp.2]
   by_cases b : out.contains x = true
   ·refine Ev.pos b ?_
    exact tail out seen (by omega) (by rw [show addNew out x = out by rw [addNew, if_pos b]]) sl hs
   ·refine Ev.neg b (Ev.pos (by omega) ?_)
    have e : addNew out x = out ++ [x] := by rw [addNew, if_neg b]
    have ss := seen_set sl hs bp.1 bp.2
    rw [← e] at ss ⊢
    exact tail _ _ (by omega) rfl (by rw [List.length_set, sl]) ss
  ·rw [if_neg c]
   refine Ev.neg (by omega) ?_
   rw [show ((out.length : Int) == (p.length : Int)) = decide (out.length = p.length) by rw [Bool.eq_iff_iff]; simp; omega]
   exact Ev.now _
def transB (p q : List Int) : Bool := permB p && (permB q && (decide (p.length = q.length) && (decide (0 < p.length) && decide ((reachL p q 0).length = p.length))))
theorem spec_IsTransitive_ev (p q : List Int) (hp : p.length < 9223372036854775807) (hq : q.length < 9223372036854775807) : Ev (fun k => spec_IsTransitive.f k p q) (transB p q) := by
 refine Ev.same (fun k => by rw [spec_IsTransitive.f]) (Ev.bind (spec_PermOk_ev p hp) ?_)
 unfold transB
 by_cases h : permB p = true
 ·refine Ev.pos h (Ev.bind (spec_PermOk_ev q hq) ?_)
  rw [h, Bool.true_and]
  by_cases h' : permB q = true
  ·rw [h', Bool.true_and]
   refine Ev.pos rfl ?_
   by_cases e : p.length = q.length
   ·rw [decide_eq_true e, Bool.true_and]
    refine Ev.pos (by omega) ?_
    by_cases z : 0 < p.length
    ·rw [decide_eq_true z, Bool.true_and]
     have a := (permB_iff p).1 h
     have b := (permB_iff q).1 h'
     refine Ev.pos (by omega) (Ev.bind (spec_l02Reach_ev p q a.2 b.2 e a.1 (s := 0) (by omega) (by omega)) ?_)
     rw [show (((reachL p q 0).length : Int) == (p.length : Int)) = decide ((reachL p q 0).length = p.length) by rw [Bool.eq_iff_iff]; simp; omega]
     exact Ev.now _
    ·rw [decide_eq_false z, Bool.false_and]
     exact Ev.neg (by omega) (Ev.now _)
   ·rw [decide_eq_false e, Bool.false_and]
    exact Ev.neg (by omega) (Ev.now _)
  ·rw [show permB q = false by simpa using h', Bool.false_and]
   exact Ev.neg (by simp) (Ev.now _)
 ·rw [show permB p = false by simpa using h, Bool.false_and]
  exact Ev.neg (by simp) (Ev.now _)
theorem impl_IsTransitive_ev (p q : List Int) : Ev (fun k => impl_IsTransitive.f k p q) (transB p q) := by
 have no : Ev (fun k => impl_IsTransitive.j0 k p q true) false := Ev.step (fun k => by rw [impl_IsTransitive.j0]) (Ev.pos rfl (Ev.now _))
 refine Ev.same (fun k => by rw [impl_IsTransitive.f]) (Ev.plain (impl_PermOk_some p) ?_)
 unfold transB
 by_cases h : permB p = true
 ·refine Ev.pos h (Ev.plain (impl_PermOk_some q) ?_)
  rw [h, Bool.true_and]
  by_cases h' : permB q = true
  ·rw [h', Bool.true_and]
   refine Ev.pos rfl ?_
   by_cases e : p.length = q.length
   ·rw [decide_eq_true e, Bool.true_and]
    refine Ev.pos (by omega) ?_
    by_cases z : 0 < p.length
    ·rw [decide_eq_true z, Bool.true_and, show ((p.length : Int) == 0) = false by rw [beq_eq_false_iff_ne]; omega]
     have a := (permB_iff p).1 h
     have b := (permB_iff q).1 h'
     refine Ev.step (fun k => by rw [impl_IsTransitive.j0]) (Ev.neg (by simp) (Ev.pos (by omega) (Ev.pos (by omega) (Ev.plain rfl ?_))))
     refine Ev.pos (by simp; omega) ?_
     refine impl_trans_loop p q a.2 b.2 e a.1 (p.length + 1) 0 [0] _ (by omega) (by simp) (few_one (by omega) (by omega)) (by simp) ?_
     have := seen_set (seen := List.replicate p.length false) (out := []) (n := p.length) (by simp) (fun x _ _ => by rw [rd_false]; rfl) (y := 0) (by omega) (by omega)
     simpa using this
    ·rw [decide_eq_false z, Bool.false_and, show ((p.length : Int) == 0) = true by rw [beq_iff_eq]; omega]
     exact no
   ·rw [decide_eq_false e, Bool.false_and]
    exact Ev.neg (by omega) no
  ·rw [show permB q = false by simpa using h', Bool.false_and]
   exact Ev.neg (by simp) no
 ·rw [show permB p = false by simpa using h, Bool.false_and]
  exact Ev.neg (by simp) no

end Go.Proofs.Ytlohmpgbjgidpaa.Q
namespace Go.Proofs.Ytlohmpgbjgidpaa.Q
open Go.RowKit Go.Proofs.Ytlohmpgbjgidpaa.P Go.Proofs.YtlohmpgbjgidpaaW.PrintWords Go.Proofs.YtlohmpgbjgidpaaW.PrintLast
theorem spec_SurfaceOk_ev (r u : List Int) (hr : r.length < 9223372036854775807) (hu : u.length < 9223372036854775807) : Ev (fun k => spec_SurfaceOk.f k r u) (transB r u) :=
 Ev.same (fun k => by rw [spec_SurfaceOk.f]) (Ev.bind (spec_IsTransitive_ev r u hr hu) (Ev.now _))
theorem impl_SurfaceOk_ev (r u : List Int) : Ev (fun k => impl_SurfaceOk.f k r u) (transB r u) :=
 Ev.same (fun k => by rw [impl_SurfaceOk.f]) (Ev.bind (impl_IsTransitive_ev r u) (Ev.now _))
structure IsSurf (r u : List Int) : Prop where
 right : IsPerm r
 up : IsPerm u
 same : r.length = u.length
 pos : 0 < r.length
 le : r.length ≤ 24
 all : (reachL r u 0).length = r.length
theorem transB_iff (r u : List Int) : transB r u = true ↔ IsSurf r u := by
 unfold transB
 simp only [Bool.and_eq_true, decide_eq_true_eq, permB_iff]
 exact ⟨fun ⟨⟨a, b⟩, ⟨_, d⟩, e, f, g⟩ => ⟨b, d, e, f, a, g⟩, fun ⟨a, b, c, d, e, f⟩ => ⟨⟨e, a⟩, ⟨by omega, b⟩, c, d, f⟩⟩

end Go.Proofs.Ytlohmpgbjgidpaa.Q
namespace Go.Proofs.Ytlohmpgbjgidpaa.Q
open Go.RowKit Go.Proofs.Ytlohmpgbjgidpaa.P Go.Proofs.YtlohmpgbjgidpaaW.PrintWords Go.Proofs.YtlohmpgbjgidpaaW.PrintLast
def turnV (r u : List Int) : List Int × List Int := (invL u, r)
def unturnV (r u : List Int) : List Int × List Int := (u, invL r)
def shearV (r u : List Int) : List Int × List Int := (r, thenL (invL r) u)
def unshearV (r u : List Int) : List Int × List Int := (r, thenL r u)
def actB (v : List Int → List Int → List Int × List Int) (r u : List Int) : List Int × List Int × Bool := if transB r u = true then ((v r u).1, (v r u).2, true) else ([], [], false)
theorem IsSurf.permR {r u : List Int} (h : IsSurf r u) : permB r = true := (permB_iff r).2 ⟨h.le, h.right⟩
theorem IsSurf.permU {r u : List Int} (h : IsSurf r u) : permB u = true := (permB_iff u).2 ⟨by have := h.same; have := h.le; omega, h.up⟩
theorem IsSurf.permI {r u : List Int} (h : IsSurf r u) : permB (invL r) = true := (permB_iff _).2 ⟨by rw [invL_length]; exact h.le, h.right.inv⟩
theorem IsSurf.leU {r u : List Int} (h : IsSurf r u) : u.length ≤ 24 := by have := h.same; have := h.le; omega
theorem perm_in {p q : List Int} (h : IsPerm p) (hl : p.length = q.length) : ∀ (i : Nat) (hi : i < p.length), 0 ≤ p[i] ∧ p[i] < (q.length : Int) := fun i hi => ⟨h.get_lo hi, by have := h.get_hi hi; omega⟩

end Go.Proofs.Ytlohmpgbjgidpaa.Q
namespace Go.Proofs.Ytlohmpgbjgidpaa.Q
open Go.RowKit Go.Proofs.Ytlohmpgbjgidpaa.P Go.Proofs.YtlohmpgbjgidpaaW.PrintWords Go.Proofs.YtlohmpgbjgidpaaW.PrintLast
theorem sub_len : ∀ (l m : List Int), l.Nodup → (∀ x ∈ l, x ∈ m) → l.length ≤ m.length
 | [], m, _, _ => by simp
 | x :: r, m, hd, hs => by
  have hx := hs x (by simp)
  have := sub_len r (m.erase x) (List.nodup_cons.1 hd).2 (fun y hy => by
   have hne : y ≠ x := fun e => (List.nodup_cons.1 hd).1 (e ▸ hy)
   exact (List.mem_erase_of_ne hne).2 (hs y (by simp [hy])))
  rw [List.length_erase_of_mem hx] at this
  have : 0 < m.length := List.length_pos_of_mem hx
  simp only [List.length_cons]
  omega
theorem nodup_map {l : List Int} {f : Int → Int} (h : l.Nodup) (hf : ∀ x ∈ l, ∀ y ∈ l, f x = f y → x = y) : (l.map f).Nodup := by
 apply nodup_of_inj
 intro i j hi hj e
 rw [List.length_map] at hi hj
 rw [List.getElem_map, List.getElem_map] at e
 have e2 := hf _ (List.getElem_mem hi) _ (List.getElem_mem hj) e
 have H := List.pairwise_iff_getElem.1 h
 rcases Nat.lt_trichotomy i j with hlt | he | hgt
 ·exact absurd e2 (H i j hi hj hlt)
 ·exact he
 ·exact absurd e2.symm (H j i hj hi hgt)
theorem onto {l : List Int} {f : Int → Int} (h : l.Nodup) (hf : ∀ x ∈ l, ∀ y ∈ l, f x = f y → x = y) (hm : ∀ x ∈ l, f x ∈ l) {y : Int} (hy : y ∈ l) : ∃ x ∈ l, f x = y := by
 apply Classical.byContradiction
 intro hn
 have hd : (y :: l.map f).Nodup := List.nodup_cons.2 ⟨fun hc => by obtain ⟨x, hx, e⟩ := List.mem_map.1 hc; exact hn ⟨x, hx, e⟩, nodup_map h hf⟩
 have := sub_len (y :: l.map f) l hd (fun z hz => by
  rcases List.mem_cons.1 hz with rfl | hz
  ·exact hy
  ·obtain ⟨x, hx, rfl⟩ := List.mem_map.1 hz; exact hm x hx)
 simp only [List.length_cons, List.length_map] at this
 omega
theorem rd_inj {p : List Int} (hp : IsPerm p) {x y : Int} (x0 : 0 ≤ x) (x1 : x < (p.length : Int)) (y0 : 0 ≤ y) (y1 : y < (p.length : Int)) (e : rd p x = rd p y) : x = y := by
 rw [rd_of x0 x1, rd_of y0 y1] at e
 have := hp.inj (by omega) (by omega) e
 omega
theorem reach_full {r u : List Int} (h : IsSurf r u) {s : Int} (h0 : 0 ≤ s) (h1 : s < (r.length : Int)) : (reachL r u s).length = r.length := by
 obtain ⟨f0, c0, m0, l0⟩ := reachL_all r u h.right h.up h.same (s := 0) (by omega) (by have := h.pos; omega)
 obtain ⟨f1, c1, m1, l1⟩ := reachL_all r u h.right h.up h.same h0 h1
 have all0 : ∀ x : Int, 0 ≤ x → x < (r.length : Int) → x ∈ reachL r u 0 := fun x x0 x1 => (f0.perm h.all).mem x0 (by rw [h.all]; exact x1)
 have hle := f1.len
 by_cases z : (0 : Int) ∈ reachL r u s
 ·have sub := l0 (· ∈ reachL r u s) (fun x _ _ hx => c1 x hx) z
  have := sub_len (reachL r u 0) (reachL r u s) f0.nodup sub
  have := h.all
  omega
 ·have sub := l0 (· ∉ reachL r u s) (fun x x0 x1 hx => by
   constructor
   ·intro hc
    obtain ⟨y, hy, e⟩ := onto f1.nodup (f := rd r) (fun a ha b hb e => rd_inj h.right (f1.lo a ha) (f1.hi a ha) (f1.lo b hb) (f1.hi b hb) e) (fun a ha => (c1 a ha).1) hc
    exact hx (rd_inj h.right (f1.lo y hy) (f1.hi y hy) x0 x1 e ▸ hy)
   ·intro hc
    have hs := h.same
    obtain ⟨y, hy, e⟩ := onto f1.nodup (f := rd u) (fun a ha b hb e => rd_inj h.up (f1.lo a ha) (by have := f1.hi a ha; omega) (f1.lo b hb) (by have := f1.hi b hb; omega) e) (fun a ha => (c1 a ha).2) hc
    exact hx (rd_inj h.up (f1.lo y hy) (by have := f1.hi y hy; omega) x0 (by omega) e ▸ hy)) z
  exact absurd m1 (sub s (all0 s h0 h1))
theorem reach_perm {r u : List Int} (h : IsSurf r u) {s : Int} (h0 : 0 ≤ s) (h1 : s < (r.length : Int)) : IsPerm (reachL r u s) :=
 (reachL_all r u h.right h.up h.same h0 h1).1.perm (reach_full h h0 h1)
def namesL (r u : List Int) (s : Int) : List Int := invL (reachL r u s)
theorem namesL_perm {r u : List Int} (h : IsSurf r u) {s : Int} (h0 : 0 ≤ s) (h1 : s < (r.length : Int)) : IsPerm (namesL r u s) := (reach_perm h h0 h1).inv
theorem namesL_length {r u : List Int} (h : IsSurf r u) {s : Int} (h0 : 0 ≤ s) (h1 : s < (r.length : Int)) : (namesL r u s).length = r.length := by rw [namesL, invL_length, reach_full h h0 h1]
def namesB (r u : List Int) (s : Int) : List Int := if transB r u = true ∧ 0 ≤ s ∧ s < (r.length : Int) then namesL r u s else []

end Go.Proofs.Ytlohmpgbjgidpaa.Q
namespace Go.Proofs.Ytlohmpgbjgidpaa.Q
open Go.RowKit Go.Proofs.Ytlohmpgbjgidpaa.P Go.Proofs.YtlohmpgbjgidpaaW.PrintWords Go.Proofs.YtlohmpgbjgidpaaW.PrintLast
end Go.Proofs.Ytlohmpgbjgidpaa.Q
namespace Go.Proofs.Ytlohmpgbjgidpaa.Q
open Go.RowKit Go.Proofs.Ytlohmpgbjgidpaa.P Go.Proofs.YtlohmpgbjgidpaaW.PrintWords Go.Proofs.YtlohmpgbjgidpaaW.PrintLast
end Go.Proofs.Ytlohmpgbjgidpaa.Q
namespace Go.Proofs.Ytlohmpgbjgidpaa.Q
open Go.RowKit Go.Proofs.Ytlohmpgbjgidpaa.P Go.Proofs.YtlohmpgbjgidpaaW.PrintWords Go.Proofs.YtlohmpgbjgidpaaW.PrintLast
theorem rd_then {p q : List Int} {x : Int} (h0 : 0 ≤ x) (h1 : x < (p.length : Int)) : rd (thenL p q) x = rd q (rd p x) := by
 rw [rd_of (q := thenL p q) h0 (by rw [thenL_length]; exact h1), thenL_get p q (by omega), rd_of h0 h1]
theorem rd_inv {p : List Int} {x : Int} (h0 : 0 ≤ x) (h1 : x < (p.length : Int)) : rd (invL p) x = (posOf p x : Int) := by
 rw [rd_of (q := invL p) h0 (by rw [invL_length]; exact h1), invL_get p (by omega), show ((x.toNat : Nat) : Int) = x by omega]
theorem rd_inv_of {p : List Int} (hp : IsPerm p) {x : Int} (h0 : 0 ≤ x) (h1 : x < (p.length : Int)) : rd (invL p) (rd p x) = x := by
 have b := rd_perm hp h0 h1
 rw [rd_inv b.1 b.2, rd_of h0 h1, hp.posOf_at]
 omega
theorem rd_of_inv {p : List Int} (hp : IsPerm p) {x : Int} (h0 : 0 ≤ x) (h1 : x < (p.length : Int)) : rd p (rd (invL p) x) = x := by
 have m := hp.mem h0 h1
 rw [rd_inv h0 h1, rdg (posOf_lt m), posOf_get m]
theorem surf_of {r u r' u' : List Int} (h : IsSurf r u) (hr : IsPerm r') (hu : IsPerm u') (lr : r'.length = r.length) (lu : u'.length = r.length)
  (hc : ∀ C : List Int, Few r.length C → (∀ x ∈ C, rd r' x ∈ C ∧ rd u' x ∈ C) → ∀ x ∈ C, rd r x ∈ C ∧ rd u x ∈ C) : IsSurf r' u' := by
 have pos := h.pos
 obtain ⟨f1, c1, m1, _⟩ := reachL_all r' u' hr hu (by omega) (s := 0) (by omega) (by omega)
 obtain ⟨f0, c0, m0, l0⟩ := reachL_all r u h.right h.up h.same (s := 0) (by omega) (by omega)
 rw [lr] at f1
 have sub := l0 (· ∈ reachL r' u' 0) (fun x _ _ hx => hc _ f1 c1 x hx) m1
 have := sub_len _ _ f0.nodup sub
 have := f1.len
 have := h.all
 exact ⟨hr, hu, by omega, by omega, by have := h.le; omega, by omega⟩
theorem back {n : Nat} {C : List Int} (hf : Few n C) {p : List Int} (hp : IsPerm p) (hl : p.length = n) (h : ∀ x ∈ C, rd p x ∈ C) : ∀ x ∈ C, rd (invL p) x ∈ C := by
 intro x hx
 obtain ⟨y, hy, e⟩ := onto hf.nodup (f := rd p) (fun a ha b hb e => rd_inj hp (hf.lo a ha) (by have := hf.hi a ha; omega) (hf.lo b hb) (by have := hf.hi b hb; omega) e) h hx
 rw [← e, rd_inv_of hp (hf.lo y hy) (by have := hf.hi y hy; omega)]
 exact hy
theorem inv_inv {p : List Int} (hp : IsPerm p) {x : Int} (h0 : 0 ≤ x) (h1 : x < (p.length : Int)) : rd (invL (invL p)) x = rd p x := by
 have b := rd_perm hp h0 h1
 have := rd_inv_of hp.inv (x := rd p x) b.1 (by rw [invL_length]; exact b.2)
 rwa [rd_inv_of hp h0 h1] at this
theorem turn_surf {r u : List Int} (h : IsSurf r u) : IsSurf (turnV r u).1 (turnV r u).2 := by
 have s := h.same
 refine surf_of h h.up.inv h.right (by rw [turnV, invL_length, s]) rfl fun C hf hc x hx => ⟨(hc x hx).2, ?_⟩
 have := back hf h.up.inv (by rw [invL_length, s]) (fun y hy => (hc y hy).1) x hx
 rwa [inv_inv h.up (hf.lo x hx) (by have := hf.hi x hx; omega)] at this
theorem unturn_surf {r u : List Int} (h : IsSurf r u) : IsSurf (unturnV r u).1 (unturnV r u).2 := by
 have s := h.same
 refine surf_of h h.up h.right.inv s.symm (by rw [unturnV, invL_length]) fun C hf hc x hx => ⟨?_, (hc x hx).1⟩
 have := back hf h.right.inv (by rw [invL_length]) (fun y hy => (hc y hy).2) x hx
 rwa [inv_inv h.right (hf.lo x hx) (hf.hi x hx)] at this
theorem shear_surf {r u : List Int} (h : IsSurf r u) : IsSurf (shearV r u).1 (shearV r u).2 := by
 have s := h.same
 have e1 : (invL r).length = u.length := by rw [invL_length, s]
 refine surf_of h h.right (h.right.inv.then h.up e1) rfl (by rw [shearV, thenL_length, invL_length]) fun C hf hc x hx => ⟨(hc x hx).1, ?_⟩
 have b := rd_perm h.right (hf.lo x hx) (hf.hi x hx)
 have := (hc _ (hc x hx).1).2
 rwa [shearV, rd_then b.1 (by rw [invL_length]; exact b.2), rd_inv_of h.right (hf.lo x hx) (hf.hi x hx)] at this
theorem unshear_surf {r u : List Int} (h : IsSurf r u) : IsSurf (unshearV r u).1 (unshearV r u).2 := by
 have s := h.same
 refine surf_of h h.right (h.right.then h.up s) rfl (by rw [unshearV, thenL_length]) fun C hf hc x hx => ⟨(hc x hx).1, ?_⟩
 have bk := back hf h.right rfl (fun y hy => (hc y hy).1) x hx
 have b := rd_perm h.right.inv (hf.lo x hx) (by rw [invL_length]; exact hf.hi x hx)
 rw [invL_length] at b
 have := (hc _ bk).2
 rwa [unshearV, rd_then b.1 b.2, rd_of_inv h.right (hf.lo x hx) (hf.hi x hx)] at this
def letV (c : Int) (r u : List Int) : List Int × List Int := if c = 84 then shearV r u else if c = 116 then unshearV r u else if c = 83 then turnV r u else unturnV r u
theorem let_surf {r u : List Int} (h : IsSurf r u) (c : Int) : IsSurf (letV c r u).1 (letV c r u).2 := by
 unfold letV
 split
 ·exact shear_surf h
 ·split
  ·exact unshear_surf h
  ·split
   ·exact turn_surf h
   ·exact unturn_surf h
def runF (s : ByteArray) : Nat → Nat → List Int → List Int → List Int × List Int
 | 0, _, r, u => (r, u)
 | d + 1, i, r, u => runF s d (i + 1) (letV (bt s (i : Int)) r u).1 (letV (bt s (i : Int)) r u).2
theorem run_surf (s : ByteArray) : ∀ (d i : Nat) {r u : List Int}, IsSurf r u → IsSurf (runF s d i r u).1 (runF s d i r u).2
 | 0, _, _, _, h => h
 | d + 1, i, _, _, h => run_surf s d (i + 1) (let_surf h _)

end Go.Proofs.Ytlohmpgbjgidpaa.Q
namespace Go.Proofs.Ytlohmpgbjgidpaa.Q
open Go.RowKit Go.Proofs.Ytlohmpgbjgidpaa.P Go.Proofs.YtlohmpgbjgidpaaW.PrintWords Go.Proofs.YtlohmpgbjgidpaaW.PrintLast
theorem rd_ren {p q : List Int} (hp : IsPerm p) (hq : IsPerm q) (hl : p.length = q.length) {x : Int} (h0 : 0 ≤ x) (h1 : x < (p.length : Int)) : rd (renL p q) (rd q x) = rd q (rd p x) := by
 have b := rd_perm hq h0 (by omega)
 rw [renL, rd_then b.1 (by rw [invL_length]; exact b.2), rd_inv_of hq h0 (by omega), rd_then h0 h1]
theorem rd_onto {q : List Int} (hq : IsPerm q) {y : Int} (h0 : 0 ≤ y) (h1 : y < (q.length : Int)) : ∃ x, 0 ≤ x ∧ x < (q.length : Int) ∧ rd q x = y := by
 have b := rd_perm hq.inv h0 (by rw [invL_length]; exact h1)
 rw [invL_length] at b
 exact ⟨rd (invL q) y, b.1, b.2, rd_of_inv hq h0 h1⟩
theorem list_ext_rd {l m : List Int} (h : l.length = m.length) (hr : ∀ x : Int, 0 ≤ x → x < (l.length : Int) → rd l x = rd m x) : l = m := by
 apply List.ext_getElem h
 intro i h1 h2
 have := hr (i : Int) (by omega) (by omega)
 rwa [rdg h1, rdg h2] at this

end Go.Proofs.Ytlohmpgbjgidpaa.Q
namespace Go.Proofs.Ytlohmpgbjgidpaa.Q
open Go.RowKit Go.Proofs.Ytlohmpgbjgidpaa.P Go.Proofs.YtlohmpgbjgidpaaW.PrintWords Go.Proofs.YtlohmpgbjgidpaaW.PrintLast
def lessL : List Int → List Int → Bool
 | x :: a, y :: b => if x = y then lessL a b else decide (x < y)
 | _, _ => false
def nmd (r u : List Int) (k : Nat) : List Int × List Int := (renL r (namesL r u (k : Int)), renL u (namesL r u (k : Int)))
def beforeS (a b : List Int × List Int) : Bool := if a.1 = b.1 then lessL a.2 b.2 else lessL a.1 b.1
def canonF (r u : List Int) : Nat → Nat → List Int × List Int → List Int × List Int
 | 0, _, best => best
 | d + 1, i, best => canonF r u d (i + 1) (if beforeS (nmd r u i) best = true then nmd r u i else best)
def canonL (r u : List Int) : List Int × List Int := canonF r u (r.length - 1) 1 (nmd r u 0)
def canonB (r u : List Int) : List Int × List Int × Bool := if transB r u = true then ((canonL r u).1, (canonL r u).2, true) else ([], [], false)
theorem nmd_length {r u : List Int} (h : IsSurf r u) {k : Nat} (hk : k < r.length) : (nmd r u k).1.length = r.length ∧ (nmd r u k).2.length = r.length := by
 have := namesL_length h (s := (k : Int)) (by omega) (by omega)
 simp only [nmd, renL_length]
 exact ⟨this, this⟩
theorem canonF_length {r u : List Int} (h : IsSurf r u) : ∀ (d i : Nat) (b : List Int × List Int), i + d ≤ r.length → b.1.length = r.length → b.2.length = r.length → (canonF r u d i b).1.length = r.length ∧ (canonF r u d i b).2.length = r.length
 | 0, _, b, _, h1, h2 => ⟨h1, h2⟩
 | d + 1, i, b, hi, h1, h2 => by
  have nl := nmd_length h (k := i) (by omega)
  rw [canonF]
  split
  ·exact canonF_length h d (i + 1) _ (by omega) nl.1 nl.2
  ·exact canonF_length h d (i + 1) _ (by omega) h1 h2
theorem canonL_length {r u : List Int} (h : IsSurf r u) : (canonL r u).1.length = r.length ∧ (canonL r u).2.length = r.length := by
 have := h.pos
 have nl := nmd_length h (k := 0) (by omega)
 exact canonF_length h _ _ _ (by omega) nl.1 nl.2

end Go.Proofs.Ytlohmpgbjgidpaa.Q
namespace Go.Proofs.Ytlohmpgbjgidpaa.Q
open Go.RowKit Go.Proofs.Ytlohmpgbjgidpaa.P Go.Proofs.YtlohmpgbjgidpaaW.PrintWords Go.Proofs.YtlohmpgbjgidpaaW.PrintLast
structure Along (p q p' q' v : List Int) : Prop where
 lp : p.length = v.length
 lp' : p'.length = v.length
 inj : ∀ x y : Int, 0 ≤ x → x < (v.length : Int) → 0 ≤ y → y < (v.length : Int) → rd v x = rd v y → x = y
 a : ∀ x : Int, 0 ≤ x → x < (v.length : Int) → rd p' (rd v x) = rd v (rd p x)
 b : ∀ x : Int, 0 ≤ x → x < (v.length : Int) → rd q' (rd v x) = rd v (rd q x)
theorem addNew_map {v out : List Int} {x : Int} (h : ∀ y ∈ out, rd v y = rd v x → y = x) : (addNew out x).map (rd v ·) = addNew (out.map (rd v ·)) (rd v x) := by
 unfold addNew
 by_cases c : x ∈ out
 ·rw [if_pos (by simpa using c), if_pos (by simpa using ⟨x, c, rfl⟩)]
 ·rw [if_neg (by simpa using c), if_neg (by
   simp only [List.contains_eq_mem, List.mem_map, decide_eq_true_eq, not_exists, not_and]
   intro y hy e
   exact c (h y hy e ▸ hy))]
  simp
theorem reachF_map {p q p' q' v : List Int} (hp : IsPerm p) (hq : IsPerm q) (hl : p.length = q.length) (h : Along p q p' q' v) : ∀ (d a : Nat) (out : List Int), Few p.length out → (reachF p q d out a).map (rd v ·) = reachF p' q' d (out.map (rd v ·)) a
 | 0, _, _, _ => rfl
 | d + 1, a, out, hf => by
  rw [reachF, reachF, List.length_map]
  have lp := h.lp
  by_cases c : a < out.length
  ·rw [if_pos c, if_pos c]
   have m := rd_mem c
   have x0 := hf.lo _ m
   have x1 := hf.hi _ m
   have bp := rd_perm hp x0 x1
   have bq := rd_perm hq x0 (by omega)
   have f1 := hf.add bp.1 bp.2
   have f2 := f1.add bq.1 (by omega)
   have e : rd (out.map (rd v ·)) (a : Int) = rd v (rd out (a : Int)) := by rw [rdg (by simpa using c), rdg c, List.getElem_map]
   rw [reachF_map hp hq hl h d (a + 1) _ f2, addNew_map (fun y hy z => h.inj _ _ (f1.lo _ hy) (by have := f1.hi _ hy; omega) bq.1 (by omega) z),
    addNew_map (fun y hy z => h.inj _ _ (hf.lo _ hy) (by have := hf.hi _ hy; omega) bp.1 (by omega) z), e, h.a _ x0 (by omega), h.b _ x0 (by omega)]
  ·rw [if_neg c, if_neg c]
theorem reachL_map {p q p' q' v : List Int} (hp : IsPerm p) (hq : IsPerm q) (hl : p.length = q.length) (h : Along p q p' q' v) {s : Int} (h0 : 0 ≤ s) (h1 : s < (p.length : Int)) : reachL p' q' (rd v s) = (reachL p q s).map (rd v ·) := by
 rw [reachL, reachL, reachF_map hp hq hl h _ _ _ (few_one h0 h1), h.lp, h.lp']
 rfl
theorem Along.of {p q v : List Int} (hp : IsPerm p) (hq : IsPerm q) (hl : p.length = q.length) (hv : IsPerm v) (lv : p.length = v.length) : Along p q (renL p v) (renL q v) v :=
 ⟨lv, renL_length p v, fun x y x0 x1 y0 y1 e => rd_inj hv x0 x1 y0 y1 e, fun x h0 h1 => rd_ren hp hv lv h0 (by omega), fun x h0 h1 => rd_ren hq hv (by omega) h0 (by omega)⟩
theorem rd_names {r u : List Int} (h : IsSurf r u) {s : Int} (h0 : 0 ≤ s) (h1 : s < (r.length : Int)) {x : Int} (x0 : 0 ≤ x) (x1 : x < (r.length : Int)) : rd (namesL r u s) x = (posOf (reachL r u s) x : Int) := by
 rw [namesL, rd_inv x0 (by rw [reach_full h h0 h1]; exact x1)]
theorem posOf_map {v l : List Int} {x : Int} (hx : x ∈ l) (hi : ∀ y ∈ l, rd v y = rd v x → y = x) : posOf (l.map (rd v ·)) (rd v x) = posOf l x := by
 unfold posOf
 induction l with
 | nil => cases hx
 | cons y l ih =>
  rw [List.map_cons, List.idxOf_cons, List.idxOf_cons]
  by_cases e : y = x
  ·subst e; simp
  ·have e' : ¬ rd v y = rd v x := fun z => e (hi y (by simp) z)
   rw [show (rd v y == rd v x) = false by simpa using e', show (y == x) = false by simpa using e]
   simp only [cond_false]
   rw [ih ((List.mem_cons.1 hx).resolve_left (fun z => e z.symm)) (fun y hy => hi y (by simp [hy]))]
theorem names_along {r u r' u' v : List Int} (h : IsSurf r u) (h' : IsSurf r' u') (al : Along r u r' u' v) (hv : ∀ x : Int, 0 ≤ x → x < (v.length : Int) → 0 ≤ rd v x ∧ rd v x < (v.length : Int)) {s x : Int} (s0 : 0 ≤ s) (s1 : s < (r.length : Int)) (x0 : 0 ≤ x) (x1 : x < (r.length : Int)) :
  rd (namesL r' u' (rd v s)) (rd v x) = rd (namesL r u s) x := by
 have lp := al.lp
 have lp' := al.lp'
 have bs := hv s s0 (by omega)
 have bx := hv x x0 (by omega)
 have f := (reachL_all r u h.right h.up h.same s0 s1).1
 have mem : x ∈ reachL r u s := (reach_perm h s0 s1).mem x0 (by rw [reach_full h s0 s1]; exact x1)
 rw [rd_names h' bs.1 (by omega) bx.1 (by omega), rd_names h s0 s1 x0 x1, reachL_map h.right h.up h.same al s0 s1,
  posOf_map mem (fun y hy e => al.inj _ _ (f.lo _ hy) (by have := f.hi _ hy; omega) x0 (by omega) e)]
theorem nmd_along {r u r' u' v : List Int} (h : IsSurf r u) (h' : IsSurf r' u') (al : Along r u r' u' v) (hv : ∀ x : Int, 0 ≤ x → x < (v.length : Int) → 0 ≤ rd v x ∧ rd v x < (v.length : Int)) {s : Int} (s0 : 0 ≤ s) (s1 : s < (r.length : Int)) :
  (renL r' (namesL r' u' (rd v s)), renL u' (namesL r' u' (rd v s))) = (renL r (namesL r u s), renL u (namesL r u s)) := by
 have lp := al.lp
 have lp' := al.lp'
 have same := h.same
 have same' := h'.same
 have bs := hv s s0 (by omega)
 have N := namesL_perm h s0 s1
 have N' := namesL_perm h' bs.1 (by omega)
 have ln := namesL_length h s0 s1
 have ln' := namesL_length h' bs.1 (s := rd v s) (by omega)
 have key : ∀ {p p' : List Int}, IsPerm p → IsPerm p' → p.length = r.length → p'.length = r'.length → (∀ x : Int, 0 ≤ x → x < (v.length : Int) → rd p' (rd v x) = rd v (rd p x)) →
   renL p' (namesL r' u' (rd v s)) = renL p (namesL r u s) := by
  intro p p' hp hp' l1 l2 hc
  apply list_ext_rd (by rw [renL_length, renL_length]; omega)
  intro y y0 y1
  rw [renL_length] at y1
  obtain ⟨x, x0, x1, e⟩ := rd_onto N (y := y) y0 (by omega)
  have bx := hv x x0 (by omega)
  have bp := rd_perm hp x0 (by omega)
  rw [← e, rd_ren hp N (by omega) x0 (by omega), ← names_along h h' al hv s0 s1 x0 (by omega), rd_ren hp' N' (by omega) bx.1 (by omega), hc x x0 (by omega),
   names_along h h' al hv s0 s1 bp.1 (by omega)]
 rw [key h.right h'.right rfl rfl al.a, key h.up h'.up same.symm same'.symm al.b]

end Go.Proofs.Ytlohmpgbjgidpaa.Q
namespace Go.Proofs.Ytlohmpgbjgidpaa.Q
open Go.RowKit Go.Proofs.Ytlohmpgbjgidpaa.P Go.Proofs.YtlohmpgbjgidpaaW.PrintWords Go.Proofs.YtlohmpgbjgidpaaW.PrintLast
theorem lessL_irrefl : ∀ a : List Int, lessL a a = false
 | [] => rfl
 | x :: a => by rw [lessL, if_pos rfl, lessL_irrefl a]
theorem lessL_trans : ∀ {a b c : List Int}, lessL a b = true → lessL b c = true → lessL a c = true
 | [], _, _, h, _ => by simp [lessL] at h
 | x :: a, [], _, h, _ => by simp [lessL] at h
 | x :: a, y :: b, [], _, h => by simp [lessL] at h
 | x :: a, y :: b, z :: c, h, h' => by
  rw [lessL] at h h' ⊢
  by_cases e : x = y
  ·subst e
   rw [if_pos rfl] at h
   by_cases e : x = z
   ·subst e
    rw [if_pos rfl] at h' ⊢
    exact lessL_trans h h'
   ·rw [if_neg e] at h' ⊢
    exact h'
  ·rw [if_neg e, decide_eq_true_eq] at h
   by_cases e' : y = z
   ·subst e'
    rw [if_neg e]
    simpa using h
   ·rw [if_neg e', decide_eq_true_eq] at h'
    rw [if_neg (by omega)]
    simp
    omega
theorem lessL_tri : ∀ {a b : List Int}, a.length = b.length → lessL a b = false → lessL b a = false → a = b
 | [], [], _, _, _ => rfl
 | [], _ :: _, h, _, _ => by simp at h
 | _ :: _, [], h, _, _ => by simp at h
 | x :: a, y :: b, hl, h, h' => by
  rw [lessL] at h h'
  by_cases e : x = y
  ·subst e
   rw [if_pos rfl] at h h'
   rw [lessL_tri (by simpa using hl) h h']
  ·rw [if_neg e] at h
   rw [if_neg (fun z => e z.symm)] at h'
   simp at h h'
   omega
theorem beforeS_irrefl (a : List Int × List Int) : beforeS a a = false := by rw [beforeS, if_pos rfl, lessL_irrefl]
theorem beforeS_trans {a b c : List Int × List Int} (h : beforeS a b = true) (h' : beforeS b c = true) : beforeS a c = true := by
 unfold beforeS at *
 by_cases e : a.1 = b.1
 ·rw [if_pos e] at h
  by_cases e' : b.1 = c.1
  ·rw [if_pos e'] at h'
   rw [if_pos (e.trans e')]
   exact lessL_trans h h'
  ·rw [if_neg e'] at h'
   rw [if_neg (by rw [e]; exact e'), e]
   exact h'
 ·rw [if_neg e] at h
  by_cases e' : b.1 = c.1
  ·rw [if_neg (by rw [← e']; exact e), ← e']
   exact h
  ·rw [if_neg e'] at h'
   by_cases e2 : a.1 = c.1
   ·rw [e2] at h
    have := lessL_trans h h'
    rw [lessL_irrefl] at this
    cases this
   ·rw [if_neg e2]
    exact lessL_trans h h'
theorem beforeS_tri {a b : List Int × List Int} (h1 : a.1.length = b.1.length) (h2 : a.2.length = b.2.length) (h : beforeS a b = false) (h' : beforeS b a = false) : a = b := by
 unfold beforeS at *
 by_cases e : a.1 = b.1
 ·rw [if_pos e] at h
  rw [if_pos e.symm] at h'
  exact Prod.ext e (lessL_tri h2 h h')
 ·rw [if_neg e] at h
  rw [if_neg (fun z => e z.symm)] at h'
  exact absurd (lessL_tri h1 h h') e
theorem canonF_spec (r u : List Int) : ∀ (d i : Nat) (best : List Int × List Int), i + d = r.length → (∃ k, k < i ∧ best = nmd r u k) → (∀ k, k < i → beforeS (nmd r u k) best = false) →
  (∃ k, k < r.length ∧ canonF r u d i best = nmd r u k) ∧ ∀ k, k < r.length → beforeS (nmd r u k) (canonF r u d i best) = false
 | 0, i, best, h, ⟨k, hk, e⟩, hm => ⟨⟨k, by omega, e⟩, fun k hk => hm k (by omega)⟩
 | d + 1, i, best, h, ⟨k, hk, e⟩, hm => by
  rw [canonF]
  by_cases c : beforeS (nmd r u i) best = true
  ·rw [if_pos c]
   refine canonF_spec r u d (i + 1) _ (by omega) ⟨i, by omega, rfl⟩ fun j hj => ?_
   by_cases z : j = i
   ·subst z; exact beforeS_irrefl _
   ·have := hm j (by omega)
    cases hb : beforeS (nmd r u j) (nmd r u i) with
    | false => rfl
    | true => rw [beforeS_trans hb c] at this; cases this
  ·rw [if_neg c]
   refine canonF_spec r u d (i + 1) _ (by omega) ⟨k, by omega, e⟩ fun j hj => ?_
   by_cases z : j = i
   ·subst z; simpa using c
   ·exact hm j (by omega)
theorem canonL_spec {r u : List Int} (h : IsSurf r u) : (∃ k, k < r.length ∧ canonL r u = nmd r u k) ∧ ∀ k, k < r.length → beforeS (nmd r u k) (canonL r u) = false := by
 have := h.pos
 refine canonF_spec r u (r.length - 1) 1 _ (by omega) ⟨0, by omega, rfl⟩ fun k hk => ?_
 rw [show k = 0 by omega]
 exact beforeS_irrefl _
theorem canon_eq {r u r' u' : List Int} (h : IsSurf r u) (h' : IsSurf r' u') (hl : r.length = r'.length) (hs : ∀ k, k < r.length → ∃ k', k' < r'.length ∧ nmd r u k = nmd r' u' k') (hs' : ∀ k, k < r'.length → ∃ k', k' < r.length ∧ nmd r' u' k = nmd r u k') : canonL r' u' = canonL r u := by
 obtain ⟨⟨k, hk, e⟩, m⟩ := canonL_spec h
 obtain ⟨⟨k', hk', e'⟩, m'⟩ := canonL_spec h'
 have l := canonL_length h
 have l' := canonL_length h'
 refine beforeS_tri (by omega) (by omega) ?_ ?_
 ·obtain ⟨j, hj, z⟩ := hs' k' hk'
  rw [e', z]
  exact m j hj
 ·obtain ⟨j, hj, z⟩ := hs k hk
  rw [e, z]
  exact m' j hj
theorem canon_along {r u r' u' v : List Int} (h : IsSurf r u) (h' : IsSurf r' u') (al : Along r u r' u' v) (hv : IsPerm v) : canonL r' u' = canonL r u := by
 have lp := al.lp
 have lp' := al.lp'
 refine canon_eq h h' (by omega) (fun k hk => ?_) (fun k hk => ?_)
 ·have b := rd_perm hv (x := (k : Int)) (by omega) (by omega)
  refine ⟨(rd v (k : Int)).toNat, by omega, ?_⟩
  have := nmd_along h h' al (fun x h0 h1 => rd_perm hv h0 h1) (s := (k : Int)) (by omega) (by omega)
  rw [nmd, nmd, Int.toNat_of_nonneg b.1, this]
 ·obtain ⟨x, x0, x1, e⟩ := rd_onto hv (y := (k : Int)) (by omega) (by omega)
  refine ⟨x.toNat, by omega, ?_⟩
  have := nmd_along h h' al (fun x h0 h1 => rd_perm hv h0 h1) x0 (by omega)
  rw [nmd, nmd, Int.toNat_of_nonneg x0, ← e, this]

end Go.Proofs.Ytlohmpgbjgidpaa.Q
namespace Go.Proofs.Ytlohmpgbjgidpaa.Q
open Go.RowKit Go.Proofs.Ytlohmpgbjgidpaa.P Go.Proofs.YtlohmpgbjgidpaaW.PrintWords Go.Proofs.YtlohmpgbjgidpaaW.PrintLast
def namesAt (n : Nat) (out : List Int) : List Int := (List.range n).map fun (j : Nat) => if (j : Int) ∈ out then (posOf out (j : Int) : Int) else -1
theorem namesAt_length (n : Nat) (out : List Int) : (namesAt n out).length = n := by simp [namesAt]
theorem namesAt_get (n : Nat) (out : List Int) {j : Nat} (h : j < n) : (namesAt n out)[j]'(by rw [namesAt_length]; exact h) = if (j : Int) ∈ out then (posOf out (j : Int) : Int) else -1 := by simp [namesAt]
theorem namesAt_neg {n : Nat} {out : List Int} {x : Int} (h0 : 0 ≤ x) (h1 : x < (n : Int)) : (rd (namesAt n out) x < 0) ↔ ¬ out.contains x = true := by
 obtain ⟨j, rfl⟩ := Int.eq_ofNat_of_zero_le h0
 rw [rdg (by rw [namesAt_length]; omega), namesAt_get n out (by omega)]
 simp only [List.contains_eq_mem, decide_eq_true_eq]
 split
 ·rename_i h
  exact ⟨fun e => by omega, fun e => absurd h e⟩
 ·rename_i h
  exact ⟨fun _ => h, fun _ => by omega⟩
theorem namesAt_set {n : Nat} {out : List Int} {x : Int} (h0 : 0 ≤ x) (h1 : x < (n : Int)) (hx : ¬ out.contains x = true) : (namesAt n out).set x.toNat (out.length : Int) = namesAt n (out ++ [x]) := by
 simp only [List.contains_eq_mem, decide_eq_true_eq] at hx
 apply List.ext_getElem (by rw [List.length_set, namesAt_length, namesAt_length])
 intro j i1 i2
 rw [namesAt_length] at i2
 rw [namesAt_get n _ i2, List.getElem_set]
 split
 ·rename_i e
  have e2 : (j : Int) = x := by omega
  rw [e2, if_pos (by simp)]
  unfold posOf
  rw [List.idxOf_append, if_neg hx]
  simp
 ·rename_i e
  have e2 : (j : Int) ≠ x := by omega
  rw [namesAt_get n _ i2]
  by_cases m : (j : Int) ∈ out
  ·rw [if_pos m, if_pos (by simp [m])]
   unfold posOf
   rw [List.idxOf_append, if_pos m]
  ·rw [if_neg m, if_neg (by simp [m, e2])]
theorem namesAt_full {n : Nat} {out : List Int} (h : Few n out) (hl : out.length = n) : namesAt n out = invL out := by
 apply List.ext_getElem (by rw [namesAt_length, invL_length, hl])
 intro j i1 i2
 rw [namesAt_length] at i1
 rw [namesAt_get n _ i1, invL_get out (by omega)]
 exact if_pos ((h.perm hl).mem (by omega) (by omega))
theorem impl_names_loop (p q : List Int) (hp : IsPerm p) (hq : IsPerm q) (hl : p.length = q.length) (hn : p.length ≤ 24) : ∀ (d a : Nat) (out : List Int), p.length + 1 ≤ a + d → a ≤ out.length → Few p.length out →
  Ev (fun k => impl_NamesFrom.l1 k (namesAt p.length out) out (a : Int) p q) (namesAt p.length (reachF p q d out a)) := by
 intro d
 induction d with
 | zero => intro a out h ha hf; have := hf.len; omega
 | succ d ih =>
  intro a out h ha hf
  have len := hf.len
  refine Ev.step (fun k => by rw [impl_NamesFrom.l1]) ?_
  rw [reachF]
  by_cases c : a < out.length
  ·rw [if_pos c]
   have m := rd_mem c
   have x0 := hf.lo _ m
   have x1 := hf.hi _ m
   have bp := rd_perm hp x0 x1
   have bq := rd_perm hq x0 (by omega)
   have f1 := hf.add bp.1 bp.2
   have f2 := f1.add bq.1 (by omega)
   have l1 := addNew_length out (rd p (rd out (a : Int)))
   have l2 := addNew_length (addNew out (rd p (rd out (a : Int)))) (rd q (rd out (a : Int)))
   have n1 := f1.len
   have n2 := f2.len
   have next := ih (a + 1) _ (by omega) (by omega) f2
   refine Ev.pos (by omega) (Ev.pos (by omega) (Ev.pos x0 (Ev.pos x1 (Ev.pos (by omega) (Ev.plain rfl ?_)))))
   rw [← hl] at bq
   generalize rd p (rd out (a : Int)) = x at *
   generalize rd q (rd out (a : Int)) = y at *
   have r0 : rd [x, y] 0 = x := rfl
   have r1 : rd [x, y] 1 = y := rfl
   have tail : ∀ (o : List Int), o.length ≤ 24 → addNew o y = addNew (addNew out x) y →
     Ev (fun k => impl_NamesFrom.l2 k (namesAt p.length o) o (a : Int) [x, y] 2 1 p q) (namesAt p.length (reachF p q d (addNew (addNew out x) y) (a + 1))) := by
    intro o ho e
    refine Ev.step (fun k => by rw [impl_NamesFrom.l2]) (Ev.pos (by omega) (Ev.pos (by omega) (Ev.pos (by simp) ?_)))
    rw [r1, namesAt_length]
    refine Ev.pos (by omega) (Ev.pos (by omega) ?_)
    by_cases b : o.contains y = true
    ·refine Ev.neg (fun z => (namesAt_neg bq.1 bq.2).1 z b) (Ev.step (fun k => by rw [impl_NamesFrom.l2]) (Ev.neg (by rw [wr2]; omega) ?_))
     rw [w64n (by omega)]
     rw [addNew, if_pos b] at e
     rw [← e] at next
     rw [← e]
     exact next
    ·refine Ev.pos ((namesAt_neg bq.1 bq.2).2 b) (Ev.pos (by omega) (Ev.step (fun k => by rw [impl_NamesFrom.l2]) (Ev.neg (by rw [wr2]; omega) ?_)))
     rw [w64n (by omega), namesAt_set bq.1 bq.2 b]
     rw [addNew, if_neg b] at e
     rw [← e] at next
     rw [← e]
     exact next
   refine Ev.step (fun k => by rw [impl_NamesFrom.l2]) (Ev.pos (by simp) (Ev.pos (by omega) (Ev.pos (by simp) ?_)))
   rw [r0, wr1, namesAt_length]
   refine Ev.pos (by omega) (Ev.pos (by omega) ?_)
   by_cases b : out.contains x = true
   ·refine Ev.neg (fun z => (namesAt_neg bp.1 bp.2).1 z b) ?_
    exact tail out (by omega) (by rw [show addNew out x = out by rw [addNew, if_pos b]])
   ·refine Ev.pos ((namesAt_neg bp.1 bp.2).2 b) (Ev.pos (by omega) ?_)
    have e : addNew out x = out ++ [x] := by rw [addNew, if_neg b]
    rw [namesAt_set bp.1 bp.2 b, ← e]
    exact tail _ (by omega) rfl
  ·rw [if_neg c]
   exact Ev.neg (by omega) (Ev.now _)
theorem impl_minus_loop (n : Nat) (s : Int) (p q : List Int) (hn : n ≤ 24) (r : List Int) (h0 : 0 ≤ s) (h1 : s < (n : Int)) (next : Ev (fun k => impl_NamesFrom.l1 k (namesAt n [s]) [s] 0 p q) r) :
  ∀ (d i : Nat) (ys : List Int), i + d = n → ys.length = n → ys.take i = List.replicate i (-1) → Ev (fun k => impl_NamesFrom.l0 k s ys n i p q) r := by
 intro d
 induction d with
 | zero =>
  intro i ys h hl hy
  refine Ev.step (fun k => by rw [impl_NamesFrom.l0]) (Ev.neg (by omega) (Ev.pos h0 (Ev.pos (by omega) ?_)))
  rw [List.take_of_length_le (by omega)] at hy
  have e : namesAt n [] = ys := by
   rw [hy, show i = n by omega]
   apply List.ext_getElem (by rw [namesAt_length, List.length_replicate])
   intro j i1 i2
   rw [namesAt_length] at i1
   rw [namesAt_get n _ i1]
   simp
  have := namesAt_set (n := n) (out := []) h0 h1 (by simp)
  rw [e] at this
  simp only [List.length_nil, List.nil_append] at this
  rw [show (0 : Int) = ((0 : Nat) : Int) from rfl]
  rw [this]
  exact next
 | succ d ih =>
  intro i ys h hl hy
  refine Ev.step (fun k => by rw [impl_NamesFrom.l0]) (Ev.pos (by omega) (Ev.pos (by omega) (Ev.pos (by omega) ?_)))
  rw [w64n (by omega), Int.toNat_natCast]
  refine ih (i + 1) _ (by omega) (by rw [List.length_set, hl]) ?_
  rw [List.take_succ_eq_append_getElem (by simp; omega), List.getElem_set_self, List.take_set_of_le (by omega), hy, List.replicate_succ']
theorem impl_NamesFrom_ev (r u : List Int) (s : Int) : Ev (fun k => impl_NamesFrom.f k r u s) (namesB r u s) := by
 have no : Ev (fun k => impl_NamesFrom.j0 k s true r u) [] := Ev.step (fun k => by rw [impl_NamesFrom.j0]) (Ev.pos rfl (Ev.now _))
 refine Ev.same (fun k => by rw [impl_NamesFrom.f]) (Ev.bind (impl_SurfaceOk_ev r u) ?_)
 unfold namesB
 by_cases h : transB r u = true
 ·refine Ev.pos h ?_
  by_cases h0 : s < 0
  ·rw [if_neg (fun z => by omega)]
   exact Ev.pos h0 no
  ·refine Ev.neg h0 ?_
   by_cases h1 : s ≥ (r.length : Int)
   ·rw [if_neg (fun z => by omega), decide_eq_true h1]
    exact no
   ·rw [if_pos ⟨h, by omega, by omega⟩, decide_eq_false h1]
    have i := (transB_iff r u).1 h
    have hle := i.le
    refine Ev.step (fun k => by rw [impl_NamesFrom.j0]) (Ev.neg (by simp) (Ev.pos (by omega) (Ev.pos (by omega) (Ev.plain rfl ?_))))
    rw [List.length_replicate, Int.toNat_natCast]
    refine impl_minus_loop r.length s r u hle _ (by omega) (by omega) ?_ r.length 0 _ (by omega) (by simp) (by simp)
    have f := few_one (n := r.length) (s := s) (by omega) (by omega)
    have := impl_names_loop r u i.right i.up i.same hle (r.length + 1) 0 [s] (by omega) (by simp) f
    have e : namesAt r.length (reachF r u (r.length + 1) [s] 0) = namesL r u s :=
     namesAt_full (reachL_all r u i.right i.up i.same (by omega) (by omega)).1 (reach_full i (by omega) (by omega))
    rw [e] at this
    exact this
 ·rw [if_neg (fun z => h z.1)]
  exact Ev.neg h no

end Go.Proofs.Ytlohmpgbjgidpaa.Q
namespace Go.Proofs.Ytlohmpgbjgidpaa.Q
open Go.RowKit Go.Proofs.Ytlohmpgbjgidpaa.P Go.Proofs.YtlohmpgbjgidpaaW.PrintWords Go.Proofs.YtlohmpgbjgidpaaW.PrintLast
def renSB (r u q : List Int) : List Int × List Int × Bool := if transB r u = true ∧ permB q = true ∧ q.length = r.length then (renL r q, renL u q, true) else ([], [], false)

end Go.Proofs.Ytlohmpgbjgidpaa.Q
namespace Go.Proofs.Ytlohmpgbjgidpaa.Q
open Go.RowKit Go.Proofs.Ytlohmpgbjgidpaa.P Go.Proofs.YtlohmpgbjgidpaaW.PrintWords Go.Proofs.YtlohmpgbjgidpaaW.PrintLast
def fillAt (q : List Int) (g : Nat → Int) (i : Nat) : List Int := (List.range q.length).map fun (j : Nat) => if posOf q (j : Int) < i then g (posOf q (j : Int)) else 0
theorem fillAt_length (q : List Int) (g : Nat → Int) (i : Nat) : (fillAt q g i).length = q.length := by simp [fillAt]
theorem fillAt_get (q : List Int) (g : Nat → Int) (i : Nat) {j : Nat} (h : j < q.length) : (fillAt q g i)[j]'(by rw [fillAt_length]; exact h) = if posOf q (j : Int) < i then g (posOf q (j : Int)) else 0 := by simp [fillAt]
theorem fillAt_zero (q : List Int) (g : Nat → Int) : fillAt q g 0 = List.replicate q.length 0 := by
 apply List.ext_getElem (by rw [fillAt_length, List.length_replicate])
 intro j h1 h2
 rw [fillAt_length] at h1
 rw [fillAt_get q g 0 h1]
 simp
theorem fillAt_set {q : List Int} (hq : IsPerm q) (g : Nat → Int) {i : Nat} (hi : i < q.length) : (fillAt q g i).set (q[i]).toNat (g i) = fillAt q g (i + 1) := by
 apply List.ext_getElem (by rw [List.length_set, fillAt_length, fillAt_length])
 intro j h1 h2
 rw [fillAt_length] at h2
 rw [fillAt_get q g (i + 1) h2, List.getElem_set]
 have m := hq.mem (j := (j : Int)) (by omega) (by omega)
 have a := posOf_get m
 have l0 := hq.get_lo hi
 split
 ·rename_i e
  have e2 : (j : Int) = q[i] := by omega
  rw [e2, hq.posOf_at hi]
  simp
 ·rename_i e
  rw [fillAt_get q g i h2]
  have hne : posOf q (j : Int) ≠ i := by
   intro e2
   simp only [e2] at a
   omega
  by_cases c : posOf q (j : Int) < i
  ·rw [if_pos c, if_pos (by omega)]
  ·rw [if_neg c, if_neg (by omega)]
theorem fill_inv {p : List Int} (hp : IsPerm p) : fillAt p (fun i => (i : Int)) p.length = invL p := by
 apply List.ext_getElem (by rw [fillAt_length, invL_length])
 intro j h1 h2
 rw [invL_length] at h2
 rw [fillAt_get p _ _ h2, invL_get p h2]
 exact if_pos (posOf_lt (hp.mem (by omega) (by omega)))
theorem fill_ren {p q : List Int} (hq : IsPerm q) (hl : p.length = q.length) : fillAt q (fun i => rd q (rd p (i : Int))) q.length = renL p q := by
 apply List.ext_getElem (by rw [fillAt_length, renL_length])
 intro j h1 h2
 rw [renL_length] at h2
 rw [fillAt_get q _ _ h2]
 have m := hq.mem (j := (j : Int)) (by omega) (by omega)
 have lt := posOf_lt m
 rw [if_pos lt]
 show _ = (thenL (invL q) (thenL p q))[j]'(by rw [thenL_length, invL_length]; exact h2)
 rw [thenL_get _ _ (by rw [invL_length]; exact h2), invL_get q h2, rdg (xs := thenL p q) (by rw [thenL_length]; omega), thenL_get p q (by omega), rdg (xs := p) (by omega)]

end Go.Proofs.Ytlohmpgbjgidpaa.Q
namespace Go.Proofs.Ytlohmpgbjgidpaa.Q
open Go.RowKit Go.Proofs.Ytlohmpgbjgidpaa.P Go.Proofs.YtlohmpgbjgidpaaW.PrintWords Go.Proofs.YtlohmpgbjgidpaaW.PrintLast
def renB (p q : List Int) : List Int := if permB p = true ∧ permB q = true ∧ p.length = q.length then renL p q else []
theorem impl_ren_loop (p q : List Int) (hp : IsPerm p) (hq : IsPerm q) (hl : p.length = q.length) (hn : p.length ≤ 24) : ∀ (d i : Nat), i + d = p.length →
  Ev (fun k => impl_RenamePerm.l0 k q (fillAt q (fun i => rd q (rd p (i : Int))) i) p (p.length : Int) i) (renL p q) := by
 intro d
 induction d with
 | zero =>
  intro i h
  refine Ev.step (fun k => by rw [impl_RenamePerm.l0]) (Ev.neg (by omega) ?_)
  rw [show i = q.length by omega, fill_ren hq hl]
  exact Ev.now _
 | succ d ih =>
  intro i h
  have a := hp.get_lo (i := i) (by omega)
  have b := hp.get_hi (i := i) (by omega)
  have a' := hq.get_lo (i := i) (by omega)
  have b' := hq.get_hi (i := i) (by omega)
  refine Ev.step (fun k => by rw [impl_RenamePerm.l0]) ?_
  have s := fillAt_set hq (fun i => rd q (rd p (i : Int))) (i := i) (by omega)
  rw [rdg (xs := p) (by omega)] at s
  rw [rdg (xs := p) (by omega), rdg (xs := q) (i := i) (by omega), w64n (by omega), fillAt_length, s]
  refine Ev.pos (by omega) (Ev.pos (by omega) (Ev.pos (by omega) (Ev.pos (by omega) (Ev.pos (by omega) (Ev.pos (by omega) (Ev.pos (by omega) (Ev.pos (by omega) ?_)))))))
  exact ih (i + 1) (by omega)
theorem impl_RenamePerm_ev (p q : List Int) : Ev (fun k => impl_RenamePerm.f k p q) (renB p q) := by
 have no : Ev (fun k => impl_RenamePerm.j0 k p q true) [] := Ev.step (fun k => by rw [impl_RenamePerm.j0]) (Ev.pos rfl (Ev.now _))
 refine Ev.same (fun k => by rw [impl_RenamePerm.f]) (Ev.plain (impl_PermOk_some p) ?_)
 unfold renB
 by_cases h : permB p = true
 ·refine Ev.pos h (Ev.plain (impl_PermOk_some q) ?_)
  by_cases h' : permB q = true
  ·refine Ev.pos h' ?_
   by_cases e : p.length = q.length
   ·rw [if_pos ⟨h, h', e⟩, show ((p.length : Int) != (q.length : Int)) = false by simp [e]]
    have hp := (permB_iff p).1 h
    refine Ev.step (fun k => by rw [impl_RenamePerm.j0]) (Ev.neg (by simp) (Ev.pos (by omega) (Ev.pos (by omega) ?_)))
    have := impl_ren_loop p q hp.2 ((permB_iff q).1 h').2 e hp.1 p.length 0 (by omega)
    rw [fillAt_zero, ← e] at this
    simpa using this
   ·rw [if_neg (fun z => e z.2.2), show ((p.length : Int) != (q.length : Int)) = true by simp; omega]
    exact no
  ·rw [if_neg (fun z => h' z.2.1)]
   exact Ev.neg h' no
 ·rw [if_neg (fun z => h z.1)]
  exact Ev.neg h no

end Go.Proofs.Ytlohmpgbjgidpaa.Q
namespace Go.Proofs.Ytlohmpgbjgidpaa.Q
open Go.RowKit Go.Proofs.Ytlohmpgbjgidpaa.P Go.Proofs.YtlohmpgbjgidpaaW.PrintWords Go.Proofs.YtlohmpgbjgidpaaW.PrintLast
theorem impl_RenameSurface_ev (r u q : List Int) : Ev (fun k => impl_RenameSurface.f k r u q) (renSB r u q) := by
 have no : Ev (fun k => impl_RenameSurface.j0 k q true r u) ([], [], false) := Ev.step (fun k => by rw [impl_RenameSurface.j0]) (Ev.pos rfl (Ev.now _))
 refine Ev.same (fun k => by rw [impl_RenameSurface.f]) (Ev.bind (impl_SurfaceOk_ev r u) ?_)
 unfold renSB
 by_cases h : transB r u = true
 ·refine Ev.pos h (Ev.plain (impl_PermOk_some q) ?_)
  by_cases h' : permB q = true
  ·refine Ev.pos h' ?_
   by_cases e : q.length = r.length
   ·rw [if_pos ⟨h, h', e⟩, show ((q.length : Int) != (r.length : Int)) = false by simp [e]]
    have s := (transB_iff r u).1 h
    have := s.same
    refine Ev.step (fun k => by rw [impl_RenameSurface.j0]) (Ev.neg (by simp) (Ev.bind (impl_RenamePerm_ev r q) ?_))
    rw [renB, if_pos ⟨s.permR, h', by omega⟩]
    refine Ev.bind (impl_RenamePerm_ev u q) ?_
    rw [renB, if_pos ⟨s.permU, h', by omega⟩]
    exact Ev.now _
   ·rw [if_neg (fun z => e z.2.2), show ((q.length : Int) != (r.length : Int)) = true by simp; omega]
    exact no
  ·rw [if_neg (fun z => h' z.2.1)]
   exact Ev.neg h' no
 ·rw [if_neg (fun z => h z.1)]
  exact Ev.neg h no

end Go.Proofs.Ytlohmpgbjgidpaa.Q
namespace Go.Proofs.Ytlohmpgbjgidpaa.Q
open Go.RowKit Go.Proofs.Ytlohmpgbjgidpaa.P Go.Proofs.YtlohmpgbjgidpaaW.PrintWords Go.Proofs.YtlohmpgbjgidpaaW.PrintLast
def countB (r u : List Int) : Int := if transB r u = true then (r.length : Int) else 0
theorem impl_CountSquares_ev (r u : List Int) : Ev (fun k => impl_CountSquares.f k r u) (countB r u) := by
 refine Ev.same (fun k => by rw [impl_CountSquares.f]) (Ev.bind (impl_SurfaceOk_ev r u) ?_)
 unfold countB
 cases transB r u with
 | true => exact Ev.now _
 | false => exact Ev.now _

end Go.Proofs.Ytlohmpgbjgidpaa.Q
namespace Go.Proofs.Ytlohmpgbjgidpaa.Q
open Go.RowKit Go.Proofs.Ytlohmpgbjgidpaa.P Go.Proofs.YtlohmpgbjgidpaaW.PrintWords Go.Proofs.YtlohmpgbjgidpaaW.PrintLast
def cmpL (a b : List Int) : Int := if lessL a b = true then -1 else if a = b then 0 else 1
theorem cmp_some (x y : Int) : cmp_Compare_int.f x y = some (if x = y then 0 else if x < y then -1 else 1) := by
 unfold cmp_Compare_int.f
 by_cases e : x = y
 ·subst e; simp [cmp_isNaN_int.f]
 ·by_cases l : x < y
  ·simp [e, l, cmp_isNaN_int.f]
  ·have : x > y := by omega
   simp [e, l, this, cmp_isNaN_int.f]
theorem less_cons (x y : Int) (a b : List Int) : lessL (x :: a) (y :: b) = if x = y then lessL a b else decide (x < y) := by rw [lessL]
theorem cmp_cons (x y : Int) (a b : List Int) : cmpL (x :: a) (y :: b) = if x = y then cmpL a b else if x < y then -1 else 1 := by
 unfold cmpL
 rw [less_cons]
 by_cases e : x = y
 ·subst e; simp
 ·simp only [if_neg e, decide_eq_true_eq]
  by_cases l : x < y
  ·rw [if_pos l, if_pos l]
  ·rw [if_neg l, if_neg l, if_neg (fun z => e (List.cons.inj z).1)]
theorem impl_cmp_loop (a b : List Int) (hl : a.length = b.length) (hn : a.length < 9223372036854775807) : ∀ (d i : Nat), i + d = a.length → Ev (fun k => slices_Compare_int_int.l0 k a b a (a.length : Int) i) (cmpL (a.drop i) (b.drop i)) := by
 intro d
 induction d with
 | zero =>
  intro i h
  refine Ev.step (fun k => by rw [slices_Compare_int_int.l0]) (Ev.neg (by omega) (Ev.neg (by omega) ?_))
  rw [List.drop_of_length_le (by omega), List.drop_of_length_le (by omega)]
  exact Ev.now _
 | succ d ih =>
  intro i h
  refine Ev.step (fun k => by rw [slices_Compare_int_int.l0]) (Ev.pos (by omega) (Ev.pos (by omega) (Ev.pos (by omega) (Ev.neg (by omega) (Ev.pos (by omega) (Ev.plain (cmp_some _ _) ?_))))))
  rw [rdg (by omega), rdg (by omega), List.drop_eq_getElem_cons (l := a) (i := i) (by omega), List.drop_eq_getElem_cons (l := b) (i := i) (by omega), cmp_cons]
  by_cases e : a[i] = b[i]
  ·rw [if_pos e, if_pos e]
   refine Ev.pos rfl ?_
   rw [w64n (by omega)]
   exact ih (i + 1) (by omega)
  ·rw [if_neg e, if_neg e]
   refine Ev.neg (by split <;> omega) ?_
   exact Ev.now _
theorem impl_cmp_ev (a b : List Int) (hl : a.length = b.length) (hn : a.length < 9223372036854775807) : Ev (fun k => slices_Compare_int_int.f k a b) (cmpL a b) := by
 have := impl_cmp_loop a b hl hn a.length 0 (by omega)
 exact Ev.same (fun k => by rw [slices_Compare_int_int.f]; rfl) this
theorem impl_cmpS_ev (a b : List Int × List Int) (h1 : a.1.length = b.1.length) (h2 : a.2.length = b.2.length) (n1 : a.1.length < 9223372036854775807) (n2 : a.2.length < 9223372036854775807) : Ev (fun k => impl_compareSurfaces.f k a.1 a.2 b.1 b.2) (if cmpL a.1 b.1 = 0 then cmpL a.2 b.2 else cmpL a.1 b.1) := by
 refine Ev.same (fun k => by rw [impl_compareSurfaces.f]) (Ev.bind (impl_cmp_ev a.1 b.1 h1 n1) ?_)
 by_cases e : cmpL a.1 b.1 = 0
 ·rw [if_pos e]
  exact Ev.pos e (Ev.bind (impl_cmp_ev a.2 b.2 h2 n2) (Ev.now _))
 ·rw [if_neg e]
  exact Ev.neg e (Ev.now _)
theorem less_self : ∀ a : List Int, lessL a a = false
 | [] => rfl
 | x :: a => by rw [lessL, if_pos rfl, less_self a]
theorem cmp_before (a b : List Int × List Int) : ((if cmpL a.1 b.1 = 0 then cmpL a.2 b.2 else cmpL a.1 b.1) < 0) ↔ beforeS a b = true := by
 have neg : ∀ x y : List Int, cmpL x y < 0 ↔ lessL x y = true := by
  intro x y
  unfold cmpL
  split
  ·rename_i h; simp [h]
  ·rename_i h
   split <;> simp [h]
 have zero : ∀ x y : List Int, cmpL x y = 0 ↔ x = y := by
  intro x y
  unfold cmpL
  split
  ·rename_i h
   constructor
   ·intro z; omega
   ·rintro rfl; rw [less_self] at h; exact absurd h (by simp)
  ·split
   ·rename_i h; simp [h]
   ·rename_i h; simp [h]
 unfold beforeS
 by_cases e : a.1 = b.1
 ·rw [if_pos ((zero _ _).2 e), if_pos e, neg]
 ·rw [if_neg (fun z => e ((zero _ _).1 z)), if_neg e, neg]
def formsL (r u : List Int) (n : Nat) : List S33 := (List.range n).map fun k => (⟨(nmd r u k).1, (nmd r u k).2⟩ : S33)
theorem formsL_length (r u : List Int) (n : Nat) : (formsL r u n).length = n := by simp [formsL]
theorem formsL_succ (r u : List Int) (n : Nat) : formsL r u (n + 1) = formsL r u n ++ [⟨(nmd r u n).1, (nmd r u n).2⟩] := by simp [formsL, List.range_succ]
theorem formsL_get (r u : List Int) (n : Nat) {k : Nat} (h : k < n) : rd_T33 (formsL r u n) (k : Int) = ⟨(nmd r u k).1, (nmd r u k).2⟩ := by
 simp [rd_T33, formsL, h]
theorem impl_named_loop {r u : List Int} (h : IsSurf r u) : ∀ (d i : Nat), i + d = r.length → Ev (fun k => impl_namedFrom.l0 k (formsL r u i) i r u) (formsL r u r.length) := by
 have le := h.le
 have hb := (transB_iff r u).2 h
 intro d
 induction d with
 | zero =>
  intro i hi
  refine Ev.step (fun k => by rw [impl_namedFrom.l0]) (Ev.bind (impl_CountSquares_ev r u) ?_)
  rw [countB, if_pos hb, show i = r.length by omega]
  exact Ev.neg (by omega) (Ev.now _)
 | succ d ih =>
  intro i hi
  refine Ev.step (fun k => by rw [impl_namedFrom.l0]) (Ev.bind (impl_CountSquares_ev r u) ?_)
  rw [countB, if_pos hb]
  refine Ev.pos (by omega) (Ev.bind (impl_NamesFrom_ev r u i) ?_)
  rw [namesB, if_pos ⟨hb, by omega, by omega⟩]
  refine Ev.bind (impl_RenameSurface_ev r u _) ?_
  have nl := namesL_length h (s := (i : Int)) (by omega) (by omega)
  rw [renSB, if_pos ⟨hb, (permB_iff _).2 ⟨by omega, namesL_perm h (by omega) (by omega)⟩, nl⟩]
  refine Ev.pos (by rw [formsL_length]; omega) ?_
  rw [w64n (by omega)]
  have := ih (i + 1) (by omega)
  rw [formsL_succ] at this
  exact this
theorem impl_named_none {r u : List Int} (h : ¬ transB r u = true) : Ev (fun k => impl_namedFrom.f k r u) [] := by
 refine Ev.same (fun k => by rw [impl_namedFrom.f]) (Ev.step (fun k => by rw [impl_namedFrom.l0]) (Ev.bind (impl_CountSquares_ev r u) ?_))
 rw [countB, if_neg h]
 exact Ev.neg (by omega) (Ev.now _)
theorem impl_named_some {r u : List Int} (h : IsSurf r u) : Ev (fun k => impl_namedFrom.f k r u) (formsL r u r.length) :=
 Ev.same (fun k => by rw [impl_namedFrom.f]; rfl) (impl_named_loop h r.length 0 (by omega))
theorem impl_min_loop {r u : List Int} (h : IsSurf r u) : ∀ (d i : Nat) (b : List Int × List Int), i + d = r.length → b.1.length = r.length → b.2.length = r.length → Ev (fun k => minOf.l0 k (formsL r u r.length) i ⟨b.1, b.2⟩) ⟨(canonF r u d i b).1, (canonF r u d i b).2⟩ := by
 have le := h.le
 intro d
 induction d with
 | zero =>
  intro i b hi _ _
  refine Ev.step (fun k => by rw [minOf.l0]) (Ev.neg (by rw [formsL_length]; omega) ?_)
  exact Ev.now _
 | succ d ih =>
  intro i b hi h1 h2
  have nl := nmd_length h (k := i) (by omega)
  refine Ev.step (fun k => by rw [minOf.l0]) (Ev.pos (by rw [formsL_length]; omega) ?_)
  rw [formsL_get r u _ (by omega)]
  refine Ev.bind (impl_cmpS_ev (nmd r u i) b (by omega) (by omega) (by omega) (by omega)) ?_
  rw [canonF, w64n (by omega)]
  by_cases c : beforeS (nmd r u i) b = true
  ·rw [if_pos c]
   exact Ev.pos ((cmp_before _ _).2 c) (ih (i + 1) _ (by omega) nl.1 nl.2)
  ·rw [if_neg c]
   exact Ev.neg (fun z => c ((cmp_before _ _).1 z)) (ih (i + 1) _ (by omega) h1 h2)
theorem impl_CanonOf_ev (r u : List Int) : Ev (fun k => impl_CanonOf.f k r u) (canonB r u) := by
 refine Ev.same (fun k => by rw [impl_CanonOf.f]) ?_
 unfold canonB
 by_cases h : transB r u = true
 ·rw [if_pos h]
  have i := (transB_iff r u).1 h
  have := i.pos
  have nl := nmd_length i (k := 0) (by omega)
  refine Ev.bind (impl_named_some i) (Ev.neg (by rw [formsL_length]; omega) ?_)
  have g := formsL_get r u r.length (k := 0) (by omega)
  rw [show ((0 : Nat) : Int) = 0 from rfl] at g
  rw [g]
  exact Ev.bind (impl_min_loop i (r.length - 1) 1 (nmd r u 0) (by omega) nl.1 nl.2) (Ev.now _)
 ·rw [if_neg h]
  exact Ev.bind (impl_named_none h) (Ev.pos rfl (Ev.now _))

end Go.Proofs.Ytlohmpgbjgidpaa.Q
namespace Go.Proofs.Ytlohmpgbjgidpaa.Q
open Go.RowKit Go.Proofs.Ytlohmpgbjgidpaa.P Go.Proofs.YtlohmpgbjgidpaaW.PrintWords Go.Proofs.YtlohmpgbjgidpaaW.PrintLast
theorem spec_inv2_loop (p : List Int) (hp : IsPerm p) (hn : p.length ≤ 24) : ∀ (d i : Nat), i + d = p.length →
  Ev (fun k => spec_l02Inverse.l0 k (fillAt p (fun i => (i : Int)) i) p (p.length : Int) i) (invL p) := by
 intro d
 induction d with
 | zero =>
  intro i h
  refine Ev.step (fun k => by rw [spec_l02Inverse.l0]) (Ev.neg (by omega) ?_)
  rw [show i = p.length by omega, fill_inv hp]
  exact Ev.now _
 | succ d ih =>
  intro i h
  have a := hp.get_lo (i := i) (by omega)
  have b := hp.get_hi (i := i) (by omega)
  refine Ev.step (fun k => by rw [spec_l02Inverse.l0]) ?_
  rw [rdg (by omega), w64n (by omega)]
  rw [fillAt_length, fillAt_set hp (fun i => (i : Int)) (by omega)]
  refine Ev.pos (by omega) (Ev.pos (by omega) (Ev.pos (by omega) (Ev.pos (by omega) (Ev.pos (by omega) ?_))))
  exact ih (i + 1) (by omega)
theorem spec_l02Inverse_ev (p : List Int) (hp : IsPerm p) (hn : p.length ≤ 24) : Ev (fun k => spec_l02Inverse.f k p) (invL p) := by
 refine Ev.same (fun k => by rw [spec_l02Inverse.f]) (Ev.pos (by omega) (Ev.pos (by omega) ?_))
 have := spec_inv2_loop p hp hn p.length 0 (by omega)
 rw [fillAt_zero] at this
 simpa using this
def invB (p : List Int) : List Int := if permB p = true then invL p else []
theorem impl_inv2_loop (p : List Int) (hp : IsPerm p) (hn : p.length ≤ 24) : ∀ (d i : Nat), i + d = p.length →
  Ev (fun k => impl_InversePerm.l0 k (fillAt p (fun i => (i : Int)) i) p (p.length : Int) i) (invL p) := by
 intro d
 induction d with
 | zero =>
  intro i h
  refine Ev.step (fun k => by rw [impl_InversePerm.l0]) (Ev.neg (by omega) ?_)
  rw [show i = p.length by omega, fill_inv hp]
  exact Ev.now _
 | succ d ih =>
  intro i h
  have a := hp.get_lo (i := i) (by omega)
  have b := hp.get_hi (i := i) (by omega)
  refine Ev.step (fun k => by rw [impl_InversePerm.l0]) ?_
  rw [rdg (by omega), w64n (by omega)]
  rw [fillAt_length, fillAt_set hp (fun i => (i : Int)) (by omega)]
  refine Ev.pos (by omega) (Ev.pos (by omega) (Ev.pos (by omega) (Ev.pos (by omega) (Ev.pos (by omega) ?_))))
  exact ih (i + 1) (by omega)
theorem impl_InversePerm_ev (p : List Int) : Ev (fun k => impl_InversePerm.f k p) (invB p) := by
 refine Ev.same (fun k => by rw [impl_InversePerm.f]) (Ev.plain (impl_PermOk_some p) ?_)
 unfold invB
 by_cases h : permB p = true
 ·have h' := (permB_iff p).1 h
  rw [if_pos h]
  refine Ev.pos h (Ev.pos (by omega) (Ev.pos (by omega) ?_))
  have := impl_inv2_loop p h'.2 h'.1 p.length 0 (by omega)
  rw [fillAt_zero] at this
  simpa using this
 ·rw [if_neg h]
  exact Ev.neg h (Ev.now _)

end Go.Proofs.Ytlohmpgbjgidpaa.Q
namespace Go.Proofs.Ytlohmpgbjgidpaa.Q
open Go.RowKit Go.Proofs.Ytlohmpgbjgidpaa.P Go.Proofs.YtlohmpgbjgidpaaW.PrintWords Go.Proofs.YtlohmpgbjgidpaaW.PrintLast
def isoB (r u r' u' : List Int) : Bool := transB r u && (transB r' u' && sameB (canonL r u).1 (canonL r u).2 (canonL r' u').1 (canonL r' u').2)
theorem impl_AreIsomorphic_ev (r u r' u' : List Int) : Ev (fun k => impl_AreIsomorphic.f k r u r' u') (isoB r u r' u') := by
 refine Ev.same (fun k => by rw [impl_AreIsomorphic.f]) (Ev.bind (impl_CanonOf_ev r u) (Ev.bind (impl_CanonOf_ev r' u') ?_))
 unfold isoB canonB
 by_cases h : transB r u = true
 ·rw [h, Bool.true_and, if_pos rfl]
  refine Ev.pos rfl ?_
  by_cases h' : transB r' u' = true
  ·rw [h', Bool.true_and, if_pos rfl]
   have i := (transB_iff r u).1 h
   have n := canonL_length i
   have := i.le
   exact Ev.pos rfl (Ev.bind (impl_SameSurface_ev _ _ _ _ (by simp only; omega) (by simp only; omega)) (Ev.now _))
  ·rw [if_neg h', show transB r' u' = false by simpa using h', Bool.false_and]
   exact Ev.neg (by simp) (Ev.now _)
 ·rw [if_neg h, show transB r u = false by simpa using h, Bool.false_and]
  exact Ev.neg (by simp) (Ev.now _)

end Go.Proofs.Ytlohmpgbjgidpaa.Q
namespace Go.Proofs.Ytlohmpgbjgidpaa.Q
open Go.RowKit Go.Proofs.Ytlohmpgbjgidpaa.P Go.Proofs.YtlohmpgbjgidpaaW.PrintWords Go.Proofs.YtlohmpgbjgidpaaW.PrintLast
theorem IsSurf.tr {r u : List Int} (h : IsSurf r u) : transB r u = true := (transB_iff r u).2 h
theorem IsSurf.iso {r u r' u' : List Int} (h : IsSurf r u) (h' : IsSurf r' u') (e : canonL r u = canonL r' u') : isoB r u r' u' = true := by
 rw [isoB, h.tr, h'.tr, e, sameB]
 simp
theorem sameB_self (r u : List Int) : sameB r u r u = true := by simp [sameB]

end Go.Proofs.Ytlohmpgbjgidpaa.Q
namespace Go.Proofs.Ytlohmpgbjgidpaa.Q
open Go.RowKit Go.Proofs.Ytlohmpgbjgidpaa.P Go.Proofs.YtlohmpgbjgidpaaW.PrintWords Go.Proofs.YtlohmpgbjgidpaaW.PrintLast
theorem and255 (y : Int) : ∃ m : Nat, m < 256 ∧ Go.bits .and .i64 y 255 = (m : Int) := by
 have hx : (BitVec.ofInt 64 y).toNat &&& 255 ≤ 255 := Nat.and_le_right
 refine ⟨(BitVec.ofInt 64 y).toNat &&& 255, by omega, ?_⟩
 show IntKind.i64.wrap ((BitVec.ofInt 64 y &&& BitVec.ofInt 64 255).toNat : Int) = _
 rw [BitVec.toNat_and, show (BitVec.ofInt 64 255).toNat = 255 by decide]
 rw [i64_w]
 exact w64 (by omega) (by omega)
theorem byte_some (b : List Int) (i h : Int) (h0 : 0 ≤ i) (h1 : i ≤ (b.length : Int)) (hl : b.length < 4611686018427387904) : ∃ x i' h', spec_l01Byte.f b i h = some (x, i', h') ∧ (0 ≤ x ∧ x < 256) ∧ 0 ≤ i' ∧ i' ≤ (b.length : Int) := by
 unfold spec_l01Byte.f
 by_cases c : i < (b.length : Int)
 ·rw [if_pos c, if_pos h0]
  obtain ⟨m, hm, e⟩ := and255 (wrap64 ((Go.bits .and .i64 (Go.bits .xor .i64 ((wrap64 ((wrap64 (h * 6364136223846793005)) + 1442695040888963407)) / 8589934592) ((wrap64 ((wrap64 (h * 6364136223846793005)) + 1442695040888963407)) / 35184372088832)) 255) + (wrap64 (rd b i))))
  rw [e, w64 (by omega) (by omega)]
  exact ⟨_, _, _, rfl, by omega, by omega, by omega⟩
 ·rw [if_neg c]
  obtain ⟨m, hm, e⟩ := and255 (Go.bits .xor .i64 ((wrap64 ((wrap64 (h * 6364136223846793005)) + 1442695040888963407)) / 8589934592) ((wrap64 ((wrap64 (h * 6364136223846793005)) + 1442695040888963407)) / 35184372088832))
  rw [e]
  exact ⟨_, _, _, rfl, by omega, h0, h1⟩
theorem below_some (b : List Int) (i h n : Int) (h0 : 0 ≤ i) (h1 : i ≤ (b.length : Int)) (hl : b.length < 4611686018427387904) (n0 : 0 < n) (n1 : n ≤ 256) : ∃ x i' h', spec_l01Below.f b i h n = some (x, i', h') ∧ (0 ≤ x ∧ x < n) ∧ 0 ≤ i' ∧ i' ≤ (b.length : Int) := by
 obtain ⟨x, i', h', e, hx, hi⟩ := byte_some b i h h0 h1 hl
 unfold spec_l01Below.f
 rw [if_neg (by omega), if_pos n1, e]
 simp only [Option.bind_some]
 rw [if_neg (by omega)]
 refine ⟨_, _, _, rfl, ?_, hi⟩
 rw [Int.tmod_eq_emod_of_nonneg hx.1]
 exact ⟨Int.emod_nonneg _ (by omega), Int.emod_lt_of_pos _ n0⟩
theorem new_loop (l : List Int) (hl : l.length < 4611686018427387904) : ∀ (d i : Nat) (h : Int), i + d = l.length → ∃ h', Ev (fun k => spec_l01New.l0 k l h i) (l, 0, h') := by
 intro d
 induction d with
 | zero =>
  intro i h hi
  exact ⟨h, Ev.step (fun k => by rw [spec_l01New.l0]) (Ev.neg (by omega) (Ev.now _))⟩
 | succ d ih =>
  intro i h hi
  by_cases c : (i : Int) < 4000
  ·obtain ⟨h', e⟩ := ih (i + 1) (Go.bits .and .i64 (wrap64 ((wrap64 ((wrap64 (h * 109)) + (wrap64 (rd l i)))) + 7)) 1073741823) (by omega)
   refine ⟨h', Ev.step (fun k => by rw [spec_l01New.l0]) (Ev.pos (by omega) (Ev.pos c (Ev.pos (by omega) ?_)))⟩
   rw [w64n (by omega)]
   exact e
  ·exact ⟨h, Ev.step (fun k => by rw [spec_l01New.l0]) (Ev.pos (by omega) (Ev.neg c (Ev.now _)))⟩
theorem new_ev (l : List Int) (hl : l.length < 4611686018427387904) : ∃ h, Ev (fun k => spec_l01New.f k l) (l, 0, h) := by
 obtain ⟨h, e⟩ := new_loop l hl l.length 0 (wrap64 (2073 + (l.length : Int))) (by omega)
 exact ⟨h, Ev.same (fun k => by rw [spec_l01New.f]; rfl) e⟩
theorem l20_loop (l : List Int) (hl : l.length < 4611686018427387904) (n : Nat) (hn : n < 1000) : ∀ (d j : Nat) (i h : Int), j + d = n → 0 ≤ i → i ≤ (l.length : Int) → ∃ i' h', Ev (fun k => spec_l20New.l0 k n j l i h) (l, i', h') ∧ 0 ≤ i' ∧ i' ≤ (l.length : Int) := by
 intro d
 induction d with
 | zero =>
  intro j i h hj h0 h1
  exact ⟨i, h, Ev.step (fun k => by rw [spec_l20New.l0]) (Ev.neg (by omega) (Ev.now _)), h0, h1⟩
 | succ d ih =>
  intro j i h hj h0 h1
  obtain ⟨x, i', h', e, _, a, b⟩ := byte_some l i h h0 h1 hl
  obtain ⟨i2, h2, e2, c⟩ := ih (j + 1) i' h' (by omega) a b
  refine ⟨i2, h2, Ev.step (fun k => by rw [spec_l20New.l0]) (Ev.pos (by omega) (Ev.plain e ?_)), c⟩
  rw [w64n (by omega)]
  exact e2
theorem l20_ev (l : List Int) (hl : l.length < 4611686018427387904) (n : Nat) (hn : n < 1000) : ∃ i h, Ev (fun k => spec_l20New.f k l (n : Int)) (l, i, h) ∧ 0 ≤ i ∧ i ≤ (l.length : Int) := by
 obtain ⟨h, e⟩ := new_ev l hl
 obtain ⟨i', h', e', a, b⟩ := l20_loop l hl n hn n 0 0 h (by omega) (by omega) (by omega)
 exact ⟨i', h', Ev.same (fun k => by rw [spec_l20New.f]) (Ev.bind e e'), a, b⟩
theorem swap_perm {y : List Int} (hy : IsPerm y) {a b : Nat} (ha : a < y.length) (hb : b < y.length) : IsPerm ((y.set b y[a]).set a y[b]) := by
 have at_ : ∀ (i : Nat) (hi : i < ((y.set b y[a]).set a y[b]).length), ∃ (j : Nat) (hj : j < y.length), ((y.set b y[a]).set a y[b])[i] = y[j] ∧ (a = i ∧ j = b ∨ a ≠ i ∧ b = i ∧ j = a ∨ a ≠ i ∧ b ≠ i ∧ j = i) := by
  intro i hi
  simp only [List.length_set] at hi
  rw [List.getElem_set, List.getElem_set]
  by_cases c : a = i
  ·rw [if_pos c]; exact ⟨b, hb, rfl, .inl ⟨c, rfl⟩⟩
  ·rw [if_neg c]
   by_cases c' : b = i
   ·rw [if_pos c']; exact ⟨a, ha, rfl, .inr (.inl ⟨c, c', rfl⟩)⟩
   ·rw [if_neg c']; exact ⟨i, hi, rfl, .inr (.inr ⟨c, c', rfl⟩)⟩
 refine IsPerm.mk' (fun i hi => ?_) (fun i j hi hj e => ?_)
 ·obtain ⟨k, hk, z, _⟩ := at_ i hi
  rw [z, List.length_set, List.length_set]
  exact ⟨hy.get_lo hk, hy.get_hi hk⟩
 ·obtain ⟨k, hk, z, c⟩ := at_ i hi
  obtain ⟨k', hk', z', c'⟩ := at_ j hj
  rw [z, z'] at e
  have := hy.inj hk hk' e
  omega
theorem snoc_perm {p : List Int} (hp : IsPerm p) : IsPerm (p ++ [(p.length : Int)]) := by
 refine ⟨fun x hx => ?_, fun x hx => ?_, ?_⟩
 ·rcases List.mem_append.1 hx with hx | hx
  ·exact hp.lo x hx
  ·rw [List.mem_singleton.1 hx]; omega
 ·rw [List.length_append]
  rcases List.mem_append.1 hx with hx | hx
  ·have := hp.hi x hx; simp; omega
  ·rw [List.mem_singleton.1 hx]; simp; omega
 ·refine List.nodup_append.2 ⟨hp.nodup, by simp, fun x hx y hy e => ?_⟩
  rw [List.mem_singleton] at hy
  have := hp.hi x hx
  omega
theorem draw_loop (b : List Int) (hl : b.length < 4611686018427387904) (n : Nat) (hn : n ≤ 24) : ∀ (d m : Nat) (p : List Int) (i h : Int), m + d = n → p.length = m → IsPerm p → 0 ≤ i → i ≤ (b.length : Int) →
  ∃ q i' h', Ev (fun k => spec_l02Draw.l0 k n p m b i h) (q, i', h') ∧ (IsPerm q ∧ q.length = n) ∧ 0 ≤ i' ∧ i' ≤ (b.length : Int) := by
 intro d
 induction d with
 | zero =>
  intro m p i h hm lp hp h0 h1
  exact ⟨p, i, h, Ev.step (fun k => by rw [spec_l02Draw.l0]) (Ev.neg (by omega) (Ev.now _)), ⟨hp, by omega⟩, h0, h1⟩
 | succ d ih =>
  intro m p i h hm lp hp h0 h1
  obtain ⟨x, i', h', e, hx, a, c⟩ := below_some b i h ((m + 1 : Nat) : Int) h0 h1 hl (by omega) (by omega)
  obtain ⟨t, rfl⟩ := Int.eq_ofNat_of_zero_le hx.1
  have P := snoc_perm hp
  rw [lp] at P
  have ly : (p ++ [(m : Int)]).length = m + 1 := by rw [List.length_append, lp]; rfl
  have ym : (p ++ [(m : Int)])[m]'(by omega) = (m : Int) := by rw [List.getElem_append_right (by omega)]; simp [lp]
  have S := swap_perm P (a := t) (b := m) (by omega) (by omega)
  rw [ym] at S
  obtain ⟨q, i2, h2, e2, f⟩ := ih (m + 1) _ i' h' (by omega) (by rw [List.length_set, List.length_set, ly]) S a c
  refine ⟨q, i2, h2, Ev.step (fun k => by rw [spec_l02Draw.l0]) (Ev.pos (by omega) ?_), f⟩
  rw [w64n (by omega)]
  refine Ev.plain e (Ev.pos (by omega) (Ev.plain rfl ?_))
  simp only
  refine Ev.pos (by omega) (Ev.pos (by omega) (Ev.pos (by omega) (Ev.pos (by omega) ?_)))
  rw [Int.toNat_natCast, Int.toNat_natCast, rdg (by omega)]
  exact e2
theorem draw_ev (b : List Int) (hl : b.length < 4611686018427387904) (n : Nat) (hn : n ≤ 24) (i h : Int) (h0 : 0 ≤ i) (h1 : i ≤ (b.length : Int)) :
  ∃ q i' h', Ev (fun k => spec_l02Draw.f k b i h (n : Int)) (q, i', h') ∧ (IsPerm q ∧ q.length = n) ∧ 0 ≤ i' ∧ i' ≤ (b.length : Int) := by
 obtain ⟨q, i', h', e, f⟩ := draw_loop b hl n hn n 0 [] i h (by omega) rfl ⟨by simp, by simp, by simp⟩ h0 h1
 exact ⟨q, i', h', Ev.same (fun k => by rw [spec_l02Draw.f]; rfl) e, f⟩

end Go.Proofs.Ytlohmpgbjgidpaa.Q
namespace Go.Proofs.Ytlohmpgbjgidpaa.Q
open Go.RowKit Go.Proofs.Ytlohmpgbjgidpaa.P Go.Proofs.YtlohmpgbjgidpaaW.PrintWords Go.Proofs.YtlohmpgbjgidpaaW.PrintLast
theorem spec_then_loop (p q : List Int) (h0 : ∀ (i : Nat) (hi : i < p.length), 0 ≤ p[i] ∧ p[i] < (q.length : Int)) (hn : p.length ≤ 24) : ∀ (d i : Nat), i + d = p.length →
  Ev (fun k => spec_l02Then.l0 k q ((thenL p q).take i) p (p.length : Int) i) (thenL p q) := by
 intro d
 induction d with
 | zero =>
  intro i h
  refine Ev.step (fun k => by rw [spec_l02Then.l0]) (Ev.neg (by omega) ?_)
  rw [List.take_of_length_le (by rw [thenL_length]; omega)]
  exact Ev.now _
 | succ d ih =>
  intro i h
  have a := h0 i (by omega)
  refine Ev.step (fun k => by rw [spec_l02Then.l0]) ?_
  rw [rdg (by omega), w64n (by omega)]
  refine Ev.pos (by omega) (Ev.pos (by omega) (Ev.pos (by omega) (Ev.pos (by omega) (Ev.pos (by omega) (Ev.pos (by rw [List.length_take]; omega) ?_)))))
  rw [← thenL_get p q (by omega), ← List.take_succ_eq_append_getElem (by rw [thenL_length]; omega)]
  exact ih (i + 1) (by omega)
theorem spec_l02Then_ev (p q : List Int) (h0 : ∀ (i : Nat) (hi : i < p.length), 0 ≤ p[i] ∧ p[i] < (q.length : Int)) (hn : p.length ≤ 24) : Ev (fun k => spec_l02Then.f k p q) (thenL p q) :=
 Ev.same (fun k => by rw [spec_l02Then.f]; rfl) (spec_then_loop p q h0 hn p.length 0 (by omega))
def thenB (p q : List Int) : List Int := if permB p = true ∧ permB q = true ∧ p.length = q.length then thenL p q else []
theorem then_in {p q : List Int} (h : permB p = true) (hl : p.length = q.length) : ∀ (i : Nat) (hi : i < p.length), 0 ≤ p[i] ∧ p[i] < (q.length : Int) := fun i hi => by
 have := ((permB_iff p).1 h).2
 exact ⟨this.get_lo hi, by have := this.get_hi hi; omega⟩
theorem impl_then_loop (p q : List Int) (h0 : ∀ (i : Nat) (hi : i < p.length), 0 ≤ p[i] ∧ p[i] < (q.length : Int)) (hn : p.length ≤ 24) : ∀ (d i : Nat) (ys : List Int), i + d = p.length → ys.length = p.length → ys.take i = (thenL p q).take i →
  Ev (fun k => impl_ThenPerm.l0 k q ys p (p.length : Int) i) (thenL p q) := by
 intro d
 induction d with
 | zero =>
  intro i ys h hl hy
  refine Ev.step (fun k => by rw [impl_ThenPerm.l0]) (Ev.neg (by omega) ?_)
  rw [List.take_of_length_le (by omega), List.take_of_length_le (by rw [thenL_length]; omega)] at hy
  rw [hy]
  exact Ev.now _
 | succ d ih =>
  intro i ys h hl hy
  have a := h0 i (by omega)
  refine Ev.step (fun k => by rw [impl_ThenPerm.l0]) ?_
  rw [rdg (by omega), w64n (by omega)]
  refine Ev.pos (by omega) (Ev.pos (by omega) (Ev.pos (by omega) (Ev.pos (by omega) (Ev.pos (by omega) (Ev.pos (by omega) ?_)))))
  rw [Int.toNat_natCast]
  refine ih (i + 1) _ (by omega) (by rw [List.length_set, hl]) ?_
  rw [List.take_succ_eq_append_getElem (by simp; omega), List.getElem_set_self, List.take_set_of_le (by omega), hy, List.take_succ_eq_append_getElem (l := thenL p q) (by rw [thenL_length]; omega), thenL_get p q (by omega)]
theorem impl_ThenPerm_ev (p q : List Int) : Ev (fun k => impl_ThenPerm.f k p q) (thenB p q) := by
 have no : Ev (fun k => impl_ThenPerm.j0 k p q true) [] := Ev.step (fun k => by rw [impl_ThenPerm.j0]) (Ev.pos rfl (Ev.now _))
 refine Ev.same (fun k => by rw [impl_ThenPerm.f]) (Ev.plain (impl_PermOk_some p) ?_)
 unfold thenB
 by_cases h : permB p = true
 ·refine Ev.pos h (Ev.plain (impl_PermOk_some q) ?_)
  by_cases h' : permB q = true
  ·refine Ev.pos h' ?_
   by_cases e : p.length = q.length
   ·rw [if_pos ⟨h, h', e⟩, show ((p.length : Int) != (q.length : Int)) = false by simp [e]]
    have hp := (permB_iff p).1 h
    refine Ev.step (fun k => by rw [impl_ThenPerm.j0]) (Ev.neg (by simp) (Ev.pos (by omega) (Ev.pos (by omega) ?_)))
    exact impl_then_loop p q (then_in h e) hp.1 p.length 0 _ (by omega) (by simp) (by simp)
   ·rw [if_neg (fun z => e z.2.2), show ((p.length : Int) != (q.length : Int)) = true by simp; omega]
    exact no
  ·rw [if_neg (fun z => h' z.2.1)]
   exact Ev.neg h' no
 ·rw [if_neg (fun z => h z.1)]
  exact Ev.neg h no

end Go.Proofs.Ytlohmpgbjgidpaa.Q
namespace Go.Proofs.Ytlohmpgbjgidpaa.Q
open Go.RowKit Go.Proofs.Ytlohmpgbjgidpaa.P Go.Proofs.YtlohmpgbjgidpaaW.PrintWords Go.Proofs.YtlohmpgbjgidpaaW.PrintLast
theorem copyInts_some (l : List Int) (h : l.length ≤ 24) : impl_copyInts.f l = some l := by
 rw [impl_copyInts.f, Option.bind_some, if_pos (by simp; omega), List.nil_append]

end Go.Proofs.Ytlohmpgbjgidpaa.Q
namespace Go.Proofs.Ytlohmpgbjgidpaa.Q
open Go.RowKit Go.Proofs.Ytlohmpgbjgidpaa.P Go.Proofs.YtlohmpgbjgidpaaW.PrintWords Go.Proofs.YtlohmpgbjgidpaaW.PrintLast
theorem spec_l05Shear_ev (r u : List Int) (h : IsSurf r u) : Ev (fun k => spec_l05Shear.f k r u) (shearV r u) := by
 have := h.le
 refine Ev.same (fun k => by rw [spec_l05Shear.f]) (Ev.plain rfl ?_)
 refine Ev.pos (by simp; omega) ?_
 refine Ev.bind (spec_l02Inverse_ev r h.right h.le) ?_
 exact Ev.bind (spec_l02Then_ev (invL r) u (perm_in h.right.inv (by rw [invL_length, h.same])) (by rw [invL_length]; exact h.le)) (Ev.now (r, thenL (invL r) u))

end Go.Proofs.Ytlohmpgbjgidpaa.Q
namespace Go.Proofs.Ytlohmpgbjgidpaa.Q
open Go.RowKit Go.Proofs.Ytlohmpgbjgidpaa.P Go.Proofs.YtlohmpgbjgidpaaW.PrintWords Go.Proofs.YtlohmpgbjgidpaaW.PrintLast
theorem impl_ShearSurface_ev (r u : List Int) : Ev (fun k => impl_ShearSurface.f k r u) (actB shearV r u) := by
 refine Ev.same (fun k => by rw [impl_ShearSurface.f]) (Ev.bind (impl_SurfaceOk_ev r u) ?_)
 unfold actB
 by_cases h : transB r u = true
 ·rw [if_pos h]
  have s := (transB_iff r u).1 h
  refine Ev.pos h ?_
  refine Ev.plain (copyInts_some r s.le) (Ev.bind (impl_InversePerm_ev r) ?_)
  rw [invB, if_pos s.permR]
  refine Ev.bind (impl_ThenPerm_ev (invL r) u) ?_
  rw [thenB, if_pos ⟨s.permI, s.permU, by rw [invL_length, s.same]⟩]
  exact Ev.now _
 ·rw [if_neg h]
  exact Ev.neg h (Ev.now _)

end Go.Proofs.Ytlohmpgbjgidpaa.Q
namespace Go.Proofs.Ytlohmpgbjgidpaa.Q
open Go.RowKit Go.Proofs.Ytlohmpgbjgidpaa.P Go.Proofs.YtlohmpgbjgidpaaW.PrintWords Go.Proofs.YtlohmpgbjgidpaaW.PrintLast
theorem impl_UnshearSurface_ev (r u : List Int) : Ev (fun k => impl_UnshearSurface.f k r u) (actB unshearV r u) := by
 refine Ev.same (fun k => by rw [impl_UnshearSurface.f]) (Ev.bind (impl_SurfaceOk_ev r u) ?_)
 unfold actB
 by_cases h : transB r u = true
 ·rw [if_pos h]
  have s := (transB_iff r u).1 h
  refine Ev.pos h ?_
  refine Ev.plain (copyInts_some r s.le) (Ev.bind (impl_ThenPerm_ev r u) ?_)
  rw [thenB, if_pos ⟨s.permR, s.permU, s.same⟩]
  exact Ev.now _
 ·rw [if_neg h]
  exact Ev.neg h (Ev.now _)

end Go.Proofs.Ytlohmpgbjgidpaa.Q
namespace Go.Proofs.Ytlohmpgbjgidpaa.Q
open Go.RowKit Go.Proofs.Ytlohmpgbjgidpaa.P Go.Proofs.YtlohmpgbjgidpaaW.PrintWords Go.Proofs.YtlohmpgbjgidpaaW.PrintLast
theorem impl_TurnSurface_ev (r u : List Int) : Ev (fun k => impl_TurnSurface.f k r u) (actB turnV r u) := by
 refine Ev.same (fun k => by rw [impl_TurnSurface.f]) (Ev.bind (impl_SurfaceOk_ev r u) ?_)
 unfold actB
 by_cases h : transB r u = true
 ·rw [if_pos h]
  have s := (transB_iff r u).1 h
  refine Ev.pos h ?_
  refine Ev.bind (impl_InversePerm_ev u) ?_
  rw [invB, if_pos s.permU]
  exact Ev.plain (copyInts_some r s.le) (Ev.now _)
 ·rw [if_neg h]
  exact Ev.neg h (Ev.now _)

end Go.Proofs.Ytlohmpgbjgidpaa.Q
namespace Go.Proofs.Ytlohmpgbjgidpaa.Q
open Go.RowKit Go.Proofs.Ytlohmpgbjgidpaa.P Go.Proofs.YtlohmpgbjgidpaaW.PrintWords Go.Proofs.YtlohmpgbjgidpaaW.PrintLast
theorem impl_UnturnSurface_ev (r u : List Int) : Ev (fun k => impl_UnturnSurface.f k r u) (actB unturnV r u) := by
 refine Ev.same (fun k => by rw [impl_UnturnSurface.f]) (Ev.bind (impl_SurfaceOk_ev r u) ?_)
 unfold actB
 by_cases h : transB r u = true
 ·rw [if_pos h]
  have s := (transB_iff r u).1 h
  refine Ev.pos h ?_
  refine Ev.plain (copyInts_some u s.leU) (Ev.bind (impl_InversePerm_ev r) ?_)
  rw [invB, if_pos s.permR]
  exact Ev.now _
 ·rw [if_neg h]
  exact Ev.neg h (Ev.now _)

end Go.Proofs.Ytlohmpgbjgidpaa.Q
namespace Go.Proofs.Ytlohmpgbjgidpaa.Q
open Go.RowKit Go.Proofs.Ytlohmpgbjgidpaa.P Go.Proofs.YtlohmpgbjgidpaaW.PrintWords Go.Proofs.YtlohmpgbjgidpaaW.PrintLast
theorem act_ok {v : List Int → List Int → List Int × List Int} {r u : List Int} (h : IsSurf r u) : actB v r u = ((v r u).1, (v r u).2, true) := if_pos ((transB_iff r u).2 h)
theorem impl_letterSurface_ev {r u : List Int} (h : IsSurf r u) (c : Int) (hc : letterP 0 c = true) : Ev (fun k => impl_letterSurface.f k r u c) (letV c r u) := by
 simp only [letterP, Bool.or_eq_true, decide_eq_true_eq] at hc
 refine Ev.same (fun k => by rw [impl_letterSurface.f]) ?_
 unfold letV
 by_cases a1 : c = 84
 ·rw [if_pos a1]
  refine Ev.pos a1 (Ev.bind (impl_ShearSurface_ev r u) ?_)
  rw [act_ok h]
  exact Ev.now _
 rw [if_neg a1]
 refine Ev.neg a1 ?_
 by_cases a2 : c = 116
 ·rw [if_pos a2]
  refine Ev.pos a2 (Ev.bind (impl_UnshearSurface_ev r u) ?_)
  rw [act_ok h]
  exact Ev.now _
 rw [if_neg a2]
 refine Ev.neg a2 ?_
 by_cases a3 : c = 83
 ·rw [if_pos a3]
  refine Ev.pos a3 (Ev.bind (impl_TurnSurface_ev r u) ?_)
  rw [act_ok h]
  exact Ev.now _
 rw [if_neg a3]
 refine Ev.neg a3 (Ev.pos (by omega) (Ev.bind (impl_UnturnSurface_ev r u) ?_))
 rw [act_ok h]
 exact Ev.now _
theorem allFrom_get (p : Nat → Int → Bool) (s : ByteArray) (h : allFrom p s 0 = true) (i : Nat) (hi : i < s.size) : p i (bt s (i : Int)) = true := by
 rw [allFrom, List.all_eq_true] at h
 exact h i (by simp [List.mem_range']; omega)
def runB (r u : List Int) (s : ByteArray) : List Int × List Int × Bool := if transB r u = true ∧ wordOkB s = true then ((runF s s.size 0 r u).1, (runF s s.size 0 r u).2, true) else ([], [], false)
theorem impl_run_loop (s : ByteArray) (hs : s.size ≤ 40) (hw : allFrom letterP s 0 = true) : ∀ (d i : Nat) {r u : List Int}, i + d = s.size → IsSurf r u → Ev (fun k => impl_RunWord.l0 k s i r u) ((runF s d i r u).1, (runF s d i r u).2, true) := by
 intro d
 induction d with
 | zero =>
  intro i r u h hs
  refine Ev.step (fun k => by rw [impl_RunWord.l0]) (Ev.neg (by omega) ?_)
  exact Ev.now _
 | succ d ih =>
  intro i r u h hs
  refine Ev.step (fun k => by rw [impl_RunWord.l0]) (Ev.pos (by omega) (Ev.pos (by omega) ?_))
  refine Ev.bind (impl_letterSurface_ev hs _ (allFrom_get _ _ hw i (by omega))) ?_
  rw [w64n (by omega), runF]
  exact ih (i + 1) (by omega) (let_surf hs _)
theorem impl_copySurface_some (r u : List Int) (hr : r.length ≤ 24) (hu : u.length ≤ 24) : impl_copySurface.f r u = some (r, u) := by
 rw [impl_copySurface.f, copyInts_some r hr, Option.bind_some, copyInts_some u hu, Option.bind_some]
theorem impl_RunWord_ev (r u : List Int) (s : ByteArray) (hn : s.size < 9223372036854775807) : Ev (fun k => impl_RunWord.f k r u s) (runB r u s) := by
 have no : Ev (fun k => impl_RunWord.j0 k s true r u) ([], [], false) := Ev.step (fun k => by rw [impl_RunWord.j0]) (Ev.pos rfl (Ev.now _))
 refine Ev.same (fun k => by rw [impl_RunWord.f]) (Ev.bind (impl_SurfaceOk_ev r u) ?_)
 unfold runB
 by_cases h : transB r u = true
 ·refine Ev.pos h (Ev.bind (impl_WordOk_ev s hn) ?_)
  by_cases w : wordOkB s = true
  ·rw [if_pos ⟨h, w⟩, w]
   have i := (transB_iff r u).1 h
   rw [wordOkB, Bool.and_eq_true, decide_eq_true_eq] at w
   refine Ev.step (fun k => by rw [impl_RunWord.j0]) (Ev.neg (by simp) ?_)
   refine Ev.plain (impl_copySurface_some r u i.le i.leU) ?_
   exact impl_run_loop s w.1 w.2 s.size 0 (by omega) i
  ·rw [if_neg (fun z => w z.2), show wordOkB s = false by simpa using w]
   exact no
 ·rw [if_neg (fun z => h z.1)]
  exact Ev.neg h no

end Go.Proofs.Ytlohmpgbjgidpaa.Q
namespace Go.Proofs.Ytlohmpgbjgidpaa.Q
open Go.RowKit Go.Proofs.Ytlohmpgbjgidpaa.P Go.Proofs.YtlohmpgbjgidpaaW.PrintWords Go.Proofs.YtlohmpgbjgidpaaW.PrintLast
def surfOf (x : Option (List Int × List Int × Bool)) : Bool := match x with
 | some x => transB x.1 x.2.1
 | none => false
set_option maxRecDepth 100000 in
theorem tor_all : ∀ w : Fin 5, ∀ h : Fin 4, 1 ≤ w.val → 1 ≤ h.val → surfOf (spec_TorusOf.f 60 (w.val : Int) (h.val : Int)) = true := by decide +kernel
set_option maxRecDepth 100000 in
theorem ell_four : ∀ w : Fin 6, ∀ h : Fin 5, 1 ≤ w.val → 1 ≤ h.val → surfOf (spec_EllOf.f 60 (w.val : Int) (h.val : Int)) = true := by decide +kernel
theorem tor_ev {a b : Int} (h : 1 ≤ a ∧ a ≤ 4 ∧ 1 ≤ b ∧ b ≤ 3) : ∃ r u z, Ev (fun k => spec_TorusOf.f k a b) (r, u, z) ∧ IsSurf r u := by
 have := tor_all ⟨a.toNat, by omega⟩ ⟨b.toNat, by omega⟩ (by simp only; omega) (by simp only; omega)
 simp only at this
 rw [Int.toNat_of_nonneg (by omega), Int.toNat_of_nonneg (by omega)] at this
 cases e : spec_TorusOf.f 60 a b with
 | none => rw [e] at this; cases this
 | some x =>
  rw [e] at this
  exact ⟨x.1, x.2.1, x.2.2, Ev.of (spec_TorusOf.mono a b) e, (transB_iff _ _).1 this⟩
theorem ell4_ev {a b : Int} (h : 1 ≤ a ∧ a ≤ 5 ∧ 1 ≤ b ∧ b ≤ 4) : ∃ r u z, Ev (fun k => spec_EllOf.f k a b) (r, u, z) ∧ IsSurf r u := by
 have := ell_four ⟨a.toNat, by omega⟩ ⟨b.toNat, by omega⟩ (by simp only; omega) (by simp only; omega)
 simp only at this
 rw [Int.toNat_of_nonneg (by omega), Int.toNat_of_nonneg (by omega)] at this
 cases e : spec_EllOf.f 60 a b with
 | none => rw [e] at this; cases this
 | some x =>
  rw [e] at this
  exact ⟨x.1, x.2.1, x.2.2, Ev.of (spec_EllOf.mono a b) e, (transB_iff _ _).1 this⟩
theorem draw3_loop (b : List Int) (hl : b.length < 4611686018427387904) (n : Nat) (n0 : 0 < n) (hn : n ≤ 5) : ∀ (d m : Nat) (i h : Int), m + d = 8 → 0 ≤ i → i ≤ (b.length : Int) →
  ∃ r u i' h', Ev (fun k => spec_l03Draw.l0 k n m b i h) (r, u, i', h') ∧ IsSurf r u := by
 intro d
 induction d with
 | zero =>
  intro m i h hm h0 h1
  obtain ⟨r, u, z, e, s⟩ := ell4_ev (a := (n : Int)) (b := 1) (by omega)
  exact ⟨r, u, i, h, Ev.step (fun k => by rw [spec_l03Draw.l0]) (Ev.neg (by omega) (Ev.bind e (Ev.now _))), s⟩
 | succ d ih =>
  intro m i h hm h0 h1
  obtain ⟨p, i1, h1', e1, ⟨p1, p2⟩, a1, a2⟩ := draw_ev b hl n (by omega) i h h0 h1
  obtain ⟨q, i2, h2', e2, ⟨q1, q2⟩, b1, b2⟩ := draw_ev b hl n (by omega) i1 h1' a1 a2
  by_cases c : transB p q = true
  ·refine ⟨p, q, i2, h2', Ev.step (fun k => by rw [spec_l03Draw.l0]) (Ev.pos (by omega) (Ev.bind e1 (Ev.bind e2 (Ev.bind (spec_SurfaceOk_ev p q (by omega) (by omega)) ?_)))), (transB_iff _ _).1 c⟩
   exact Ev.pos c (Ev.now _)
  ·obtain ⟨r, u, i3, h3, e3, s⟩ := ih (m + 1) i2 h2' (by omega) b1 b2
   refine ⟨r, u, i3, h3, Ev.step (fun k => by rw [spec_l03Draw.l0]) (Ev.pos (by omega) (Ev.bind e1 (Ev.bind e2 (Ev.bind (spec_SurfaceOk_ev p q (by omega) (by omega)) ?_)))), s⟩
   refine Ev.neg c ?_
   rw [w64n (by omega)]
   exact e3
theorem shears_loop : ∀ (d : Nat) (r u : List Int), d ≤ 1000 → IsSurf r u → ∃ r' u', Ev (fun k => spec_MakeSurface.l0 k (d : Int) r u) (r', u') ∧ IsSurf r' u'
 | 0, r, u, _, h => ⟨r, u, Ev.step (fun k => by rw [spec_MakeSurface.l0]) (Ev.neg (by omega) (Ev.now _)), h⟩
 | d + 1, r, u, hd, h => by
  obtain ⟨r', u', e, s⟩ := shears_loop d (shearV r u).1 (shearV r u).2 (by omega) (shear_surf h)
  refine ⟨r', u', Ev.step (fun k => by rw [spec_MakeSurface.l0]) (Ev.pos (by omega) (Ev.bind (spec_l05Shear_ev r u h) ?_)), s⟩
  rw [show wrap64 (((d + 1 : Nat) : Int) - 1) = (d : Int) by rw [w64 (by omega) (by omega)]; omega]
  exact e
theorem MakeSurface_ev (l : List Int) (hl : l.length < 4611686018427387904) : ∃ r u, Ev (fun k => spec_MakeSurface.f k l) (r, u) ∧ IsSurf r u := by
 obtain ⟨h, e⟩ := new_ev l hl
 obtain ⟨x, i1, h1, e1, x1, a1, b1⟩ := below_some l 0 h 4 (by omega) (by omega) hl (by omega) (by omega)
 by_cases c0 : x = 0
 ·obtain ⟨y, i2, h2, e2, y1, a2, b2⟩ := below_some l i1 h1 4 a1 b1 hl (by omega) (by omega)
  obtain ⟨z, i3, h3, e3, z1, a3, b3⟩ := below_some l i2 h2 3 a2 b2 hl (by omega) (by omega)
  obtain ⟨r, u, t, e4, s⟩ := tor_ev (a := wrap64 (1 + y)) (b := wrap64 (1 + z)) (by rw [w64 (by omega) (by omega), w64 (by omega) (by omega)]; omega)
  obtain ⟨v, i5, h5, e5, v1, a5, b5⟩ := below_some l i3 h3 4 a3 b3 hl (by omega) (by omega)
  obtain ⟨d, rfl⟩ := Int.eq_ofNat_of_zero_le v1.1
  obtain ⟨r', u', e6, s'⟩ := shears_loop d r u (by omega) s
  refine ⟨r', u', Ev.same (fun k => by rw [spec_MakeSurface.f]) (Ev.bind e (Ev.plain e1 (Ev.pos c0 ?_))), s'⟩
  refine Ev.plain e2 ?_
  refine Ev.plain e3 ?_
  refine Ev.bind e4 ?_
  refine Ev.plain e5 ?_
  exact e6
 ·by_cases c1 : x = 1
  ·obtain ⟨y, i2, h2, e2, y1, a2, b2⟩ := below_some l i1 h1 4 a1 b1 hl (by omega) (by omega)
   obtain ⟨z, i3, h3, e3, z1, a3, b3⟩ := below_some l i2 h2 4 a2 b2 hl (by omega) (by omega)
   obtain ⟨r, u, t, e4, s⟩ := ell4_ev (a := wrap64 (1 + y)) (b := wrap64 (1 + z)) (by rw [w64 (by omega) (by omega), w64 (by omega) (by omega)]; omega)
   refine ⟨r, u, Ev.same (fun k => by rw [spec_MakeSurface.f]) (Ev.bind e (Ev.plain e1 (Ev.neg c0 (Ev.pos c1 ?_)))), s⟩
   refine Ev.plain e2 ?_
   refine Ev.plain e3 ?_
   refine Ev.bind e4 ?_
   exact Ev.now _
  ·obtain ⟨y, i2, h2, e2, y1, a2, b2⟩ := below_some l i1 h1 5 a1 b1 hl (by omega) (by omega)
   obtain ⟨n, rfl⟩ := Int.eq_ofNat_of_zero_le y1.1
   obtain ⟨r, u, i3, h3, e3, s⟩ := draw3_loop l hl (n + 1) (by omega) (by omega) 8 0 i2 h2 (by omega) a2 b2
   refine ⟨r, u, Ev.same (fun k => by rw [spec_MakeSurface.f]) (Ev.bind e (Ev.plain e1 (Ev.neg c0 (Ev.neg c1 ?_)))), s⟩
   have e4 : Ev (fun k => spec_l03Draw.f k l i1 h1 5) (r, u, i3, h3) := by
    refine Ev.same (fun k => by rw [spec_l03Draw.f]) (Ev.plain e2 ?_)
    rw [show wrap64 (1 + (n : Int)) = ((n + 1 : Nat) : Int) by rw [w64 (by omega) (by omega)]; omega]
    exact e3
   refine Ev.bind e4 ?_
   exact Ev.now _

end Go.Proofs.Ytlohmpgbjgidpaa.Q
namespace Go.Proofs.Ytlohmpgbjgidpaa.Q
open Go.RowKit Go.Proofs.Ytlohmpgbjgidpaa.P Go.Proofs.YtlohmpgbjgidpaaW.PrintWords Go.Proofs.YtlohmpgbjgidpaaW.PrintLast
theorem invInv {p : List Int} (hp : IsPerm p) : invL (invL p) = p :=
 list_ext_rd (by rw [invL_length, invL_length]) fun x h0 h1 => inv_inv hp h0 (by rw [invL_length, invL_length] at h1; exact h1)
theorem then_inv_then {p q : List Int} (hp : IsPerm p) (hq : IsPerm q) (hl : p.length = q.length) : thenL p (thenL (invL p) q) = q := by
 refine list_ext_rd (by rw [thenL_length]; exact hl) fun x h0 h1 => ?_
 rw [thenL_length] at h1
 have b := rd_perm hp h0 h1
 rw [rd_then h0 h1, rd_then b.1 (by rw [invL_length]; exact b.2), rd_inv_of hp h0 h1]
theorem then_then_inv {p q : List Int} (hp : IsPerm p) (hq : IsPerm q) (hl : p.length = q.length) : thenL (invL p) (thenL p q) = q := by
 refine list_ext_rd (by rw [thenL_length, invL_length]; exact hl) fun x h0 h1 => ?_
 rw [thenL_length, invL_length] at h1
 have b := rd_perm hp.inv h0 (by rw [invL_length]; exact h1)
 rw [invL_length] at b
 rw [rd_then h0 (by rw [invL_length]; exact h1), rd_then b.1 b.2, rd_of_inv hp h0 h1]
theorem turn_back {r u : List Int} (h : IsSurf r u) : unturnV (turnV r u).1 (turnV r u).2 = (r, u) := by
 simp only [turnV, unturnV, invInv h.up]
theorem unturn_back {r u : List Int} (h : IsSurf r u) : turnV (unturnV r u).1 (unturnV r u).2 = (r, u) := by
 simp only [turnV, unturnV, invInv h.right]
theorem shear_back {r u : List Int} (h : IsSurf r u) : unshearV (shearV r u).1 (shearV r u).2 = (r, u) := by
 simp only [shearV, unshearV, then_inv_then h.right h.up h.same]
theorem unshear_back {r u : List Int} (h : IsSurf r u) : shearV (unshearV r u).1 (unshearV r u).2 = (r, u) := by
 simp only [shearV, unshearV, then_then_inv h.right h.up h.same]
theorem let_back {r u : List Int} (h : IsSurf r u) (c c' : Int) (hc : (c = 84 ∧ c' = 116) ∨ (c = 116 ∧ c' = 84) ∨ (c = 83 ∧ c' = 115) ∨ (c = 115 ∧ c' = 83)) : letV c' (letV c r u).1 (letV c r u).2 = (r, u) := by
 rcases hc with ⟨rfl, rfl⟩ | ⟨rfl, rfl⟩ | ⟨rfl, rfl⟩ | ⟨rfl, rfl⟩
 ·exact shear_back h
 ·exact unshear_back h
 ·exact turn_back h
 ·exact unturn_back h
theorem runF_succ (s : ByteArray) : ∀ (d i : Nat) (r u : List Int), runF s (d + 1) i r u = letV (bt s ((i + d : Nat) : Int)) (runF s d i r u).1 (runF s d i r u).2
 | 0, i, r, u => by rw [runF, runF, runF, Nat.add_zero]
 | d + 1, i, r, u => by
  rw [runF, runF_succ s d (i + 1), runF, show i + 1 + d = i + (d + 1) by omega]
theorem flipped_get (s : ByteArray) : ∀ (n : Nat) (hn : n ≤ s.size) (j : Nat) (h : j < (flipped s n).length), (flipped s n)[j] = (s[n - 1 - j]'(by rw [flipped_length] at h; omega)) ^^^ 32
 | 0, _, j, h => by rw [flipped_length] at h; omega
 | n + 1, hn, 0, h => by
  simp only [flipped, List.getElem_cons_zero, dif_pos (show n < s.size by omega)]
  rfl
 | n + 1, hn, j + 1, h => by
  rw [flipped_length] at h
  simp only [flipped, List.getElem_cons_succ]
  rw [flipped_get s n (by omega) j (by rw [flipped_length]; omega)]
  simp only [show n - 1 - j = n + 1 - 1 - (j + 1) by omega]
theorem ba_bt (l : List UInt8) (j : Nat) (h : j < l.length) : bt (ba l) (j : Int) = (l[j].toNat : Int) := by
 rw [bdn (ba l) j (by rw [ba_size]; exact h)]
 rfl
theorem flip_pair (s : ByteArray) (hw : allFrom letterP s 0 = true) (n : Nat) (hn : n ≤ s.size) (d : Nat) (hd : d < n) :
  (bt s (d : Int) = 84 ∧ bt (ba (flipped s n)) ((n - 1 - d : Nat) : Int) = 116) ∨ (bt s (d : Int) = 116 ∧ bt (ba (flipped s n)) ((n - 1 - d : Nat) : Int) = 84) ∨ (bt s (d : Int) = 83 ∧ bt (ba (flipped s n)) ((n - 1 - d : Nat) : Int) = 115) ∨ (bt s (d : Int) = 115 ∧ bt (ba (flipped s n)) ((n - 1 - d : Nat) : Int) = 83) := by
 have hl := allFrom_at _ _ hw d (by omega)
 have hb := bdn s d (by omega)
 have hf := letter_flip (s[d]'(by omega)).toNat (by have := (s[d]'(by omega)).toNat_lt; omega) (by rw [← hb]; exact hl)
 have hu : (s[d]'(by omega)).toNat.toUInt8 = s[d]'(by omega) := UInt8.ofNat_toNat
 rw [hu] at hf
 have hg : bt (ba (flipped s n)) ((n - 1 - d : Nat) : Int) = (((s[d]'(by omega)) ^^^ 32).toNat : Int) := by
  rw [ba_bt _ _ (by rw [flipped_length]; omega), flipped_get s n hn]
  simp only [show n - 1 - (n - 1 - d) = d by omega]
 rw [hb, hg]
 rcases hf with ⟨e, f⟩ | ⟨e, f⟩ | ⟨e, f⟩ | ⟨e, f⟩
 ·exact Or.inl ⟨by rw [e]; rfl, by rw [f]; rfl⟩
 ·exact Or.inr (Or.inl ⟨by rw [e]; rfl, by rw [f]; rfl⟩)
 ·exact Or.inr (Or.inr (Or.inl ⟨by rw [e]; rfl, by rw [f]; rfl⟩))
 ·exact Or.inr (Or.inr (Or.inr ⟨by rw [e]; rfl, by rw [f]; rfl⟩))
theorem run_back (s : ByteArray) (hw : allFrom letterP s 0 = true) {r u : List Int} (h : IsSurf r u) : ∀ d, d ≤ s.size → runF (ba (flipped s s.size)) d (s.size - d) (runF s d 0 r u).1 (runF s d 0 r u).2 = (r, u)
 | 0, _ => rfl
 | d + 1, hd => by
  have i := run_surf s d 0 h
  have p := flip_pair s hw s.size (by omega) d (by omega)
  rw [runF, runF_succ, show s.size - (d + 1) = s.size - 1 - d by omega, Nat.zero_add, let_back i _ _ p, show s.size - 1 - d + 1 = s.size - d by omega]
  exact run_back s hw h d (by omega)
theorem flipped_word (s : ByteArray) (h : wordOkB s = true) : wordOkB (ba (flipped s s.size)) = true := by
 rw [wordOkB, Bool.and_eq_true, decide_eq_true_eq] at h ⊢
 refine ⟨by rw [ba_size, flipped_length]; exact h.1, ?_⟩
 rw [allFrom, List.all_eq_true]
 intro j hj
 rw [ba_size, flipped_length, List.mem_range'] at hj
 obtain ⟨k, hk, rfl⟩ := hj
 have p := flip_pair s h.2 s.size (by omega) (s.size - 1 - k) (by omega)
 rw [show s.size - 1 - (s.size - 1 - k) = 0 + 1 * k by omega] at p
 simp only [letterP, Bool.or_eq_true, decide_eq_true_eq]
 omega
theorem along_six {r u : List Int} (h : IsSurf r u) :
  Along (invL r) (invL u) (invL (thenL (thenL u r) (invL u))) (thenL (thenL (thenL u r) (invL u)) (invL (thenL u r))) (invL (thenL u r)) := by
 have s := h.same
 have G : IsPerm (thenL u r) := h.up.then h.right s.symm
 have lG : (thenL u r).length = r.length := by rw [thenL_length]; exact s.symm
 have H : IsPerm (thenL (thenL u r) (invL u)) := G.then h.up.inv (by rw [lG, invL_length]; exact s)
 have lH : (thenL (thenL u r) (invL u)).length = r.length := by rw [thenL_length]; exact lG
 have g : ∀ y : Int, 0 ≤ y → y < (r.length : Int) → rd (thenL u r) y = rd r (rd u y) := fun y y0 y1 => rd_then y0 (by omega)
 have hh : ∀ y : Int, 0 ≤ y → y < (r.length : Int) → rd (thenL (thenL u r) (invL u)) y = rd (invL u) (rd (thenL u r) y) := fun y y0 y1 => rd_then y0 (by omega)
 have inn : ∀ x : Int, 0 ≤ x → x < (r.length : Int) → 0 ≤ rd (invL (thenL u r)) x ∧ rd (invL (thenL u r)) x < (r.length : Int) := fun x x0 x1 => by
  have := rd_perm G.inv x0 (by rw [invL_length, lG]; exact x1)
  rwa [invL_length, lG] at this
 have lv : (invL (thenL u r)).length = r.length := by rw [invL_length, lG]
 constructor
 ·rw [lv, invL_length]
 ·rw [lv, invL_length, lH]
 ·intro x y x0 x1 y0 y1 e
  exact rd_inj G.inv x0 x1 y0 y1 e
 ·intro x x0 x1
  rw [lv] at x1
  have b := inn x x0 x1
  have e : rd (thenL u r) (rd (invL (thenL u r)) x) = x := rd_of_inv G x0 (by omega)
  have c := rd_perm h.right.inv x0 (by rw [invL_length]; exact x1)
  rw [invL_length] at c
  have z := inn _ c.1 c.2
  have e2 : rd (thenL (thenL u r) (invL u)) (rd (invL (thenL u r)) (rd (invL r) x)) = rd (invL (thenL u r)) x := by
   rw [hh _ z.1 z.2, rd_of_inv G c.1 (by omega)]
   have uy := rd_perm h.up b.1 (by omega)
   have q : rd (invL r) x = rd u (rd (invL (thenL u r)) x) := by
    conv => lhs; rw [← e, g _ b.1 b.2]
    exact rd_inv_of h.right uy.1 (by omega)
   rw [q, rd_inv_of h.up b.1 (by omega)]
  conv => lhs; rw [← e2]
  exact rd_inv_of H z.1 (by omega)
 ·intro x x0 x1
  rw [lv] at x1
  have b := inn x x0 x1
  rw [rd_then b.1 (by omega), hh _ b.1 b.2, rd_of_inv G x0 (by omega)]

end Go.Proofs.Ytlohmpgbjgidpaa.Q
namespace Go.Proofs.Ytlohmpgbjgidpaa.Q
open Go.RowKit Go.Proofs.Ytlohmpgbjgidpaa.P Go.Proofs.YtlohmpgbjgidpaaW.PrintWords Go.Proofs.YtlohmpgbjgidpaaW.PrintLast
def letU (b : UInt8) : Bool := decide (b = 84) || (decide (b = 116) || (decide (b = 83) || decide (b = 115)))
theorem letU_letter (i : Nat) (b : UInt8) (h : letU b = true) : letterP i (b.toNat : Int) = true := by
 simp only [letU, Bool.or_eq_true, decide_eq_true_eq] at h
 rcases h with rfl | rfl | rfl | rfl <;> rfl
theorem word_ba (l : List UInt8) (hl : l.length ≤ 40) (h : ∀ b ∈ l, letU b = true) : wordOkB (ba l) = true := by
 rw [wordOkB, Bool.and_eq_true, decide_eq_true_eq]
 refine ⟨by rw [ba_size]; exact hl, ?_⟩
 rw [allFrom, List.all_eq_true]
 intro j hj
 rw [ba_size, List.mem_range'] at hj
 obtain ⟨k, hk, rfl⟩ := hj
 have hk' : 0 + 1 * k < l.length := by omega
 have e : bt (ba l) ((0 + 1 * k : Nat) : Int) = (l[0 + 1 * k].toNat : Int) := by
  rw [bdn (ba l) _ (by rw [ba_size]; exact hk')]
  rfl
 rw [e]
 exact letU_letter _ _ (h _ (List.getElem_mem hk'))
abbrev fiveL : List ByteArray := [(⟨#[84]⟩ : ByteArray), (⟨#[83]⟩ : ByteArray), (⟨#[116]⟩ : ByteArray), (⟨#[115]⟩ : ByteArray), (⟨#[84]⟩ : ByteArray)]
theorem five_at : ∀ n : Nat, n < 5 → ∃ c : UInt8, rdOf ByteArray.empty fiveL (n : Int) = ba [c] ∧ letU c = true
 | 0, _ => ⟨84, rfl, rfl⟩
 | 1, _ => ⟨83, rfl, rfl⟩
 | 2, _ => ⟨116, rfl, rfl⟩
 | 3, _ => ⟨115, rfl, rfl⟩
 | 4, _ => ⟨84, rfl, rfl⟩
 | n + 5, h => by omega
theorem str_some (b : List Int) (hl : b.length < 4611686018427387904) (i h : Int) (h0 : 0 ≤ i) (h1 : i ≤ (b.length : Int)) : ∃ c i' h', spec_l01Str.f b i h fiveL = some (ba [c], i', h') ∧ letU c = true ∧ 0 ≤ i' ∧ i' ≤ (b.length : Int) := by
 obtain ⟨x, i', h', e, ⟨x0, x1⟩, a1, a2⟩ := below_some b i h 5 h0 h1 hl (by omega) (by omega)
 obtain ⟨n, rfl⟩ := Int.eq_ofNat_of_zero_le x0
 obtain ⟨c, ec, hc⟩ := five_at n (by omega)
 refine ⟨c, i', h', ?_, hc, a1, a2⟩
 rw [spec_l01Str.f, show (fiveL.length : Int) = 5 from rfl, e, Option.bind_some]
 simp only
 rw [if_pos (by omega), if_pos (by omega), ec]
theorem word_loop (b : List Int) (hl : b.length < 4611686018427387904) : ∀ (d : Nat) (acc : List UInt8) (i h : Int), d ≤ 6 → acc.length + d ≤ 40 → (∀ x ∈ acc, letU x = true) → 0 ≤ i → i ≤ (b.length : Int) →
  ∃ s i' h', Ev (fun k => spec_l05Word.l0 k (ba acc) (d : Int) b i h) (s, i', h') ∧ wordOkB s = true
 | 0, acc, i, h, _, ha, hc, _, _ => ⟨ba acc, i, h, Ev.step (fun k => by rw [spec_l05Word.l0]) (Ev.neg (by omega) (Ev.now _)), word_ba acc (by omega) hc⟩
 | d + 1, acc, i, h, hd, ha, hc, h0, h1 => by
  obtain ⟨c, i1, h1', e, cc, a1, a2⟩ := str_some b hl i h h0 h1
  obtain ⟨s, i', h', es, ok⟩ := word_loop b hl d (acc ++ [c]) i1 h1' (by omega) (by simp; omega) (by
   intro x hx
   rcases List.mem_append.1 hx with hx | hx
   ·exact hc x hx
   ·rw [List.mem_singleton.1 hx]; exact cc) a1 a2
  refine ⟨s, i', h', Ev.step (fun k => by rw [spec_l05Word.l0]) (Ev.pos (by omega) (Ev.plain e ?_)), ok⟩
  refine Ev.pos ?_ ?_
  ·simp only
   rw [ba_size, ba_size]
   simp
   omega
  simp only
  rw [ba_append, show wrap64 (((d + 1 : Nat) : Int) - 1) = (d : Int) by rw [w64 (by omega) (by omega)]; omega]
  exact es
theorem MakeWord_ev (l : List Int) (hl : l.length < 4611686018427387904) (n : Nat) (hn : n < 1000) : ∃ s, Ev (fun k => spec_MakeWord.f k l (n : Int)) s ∧ wordOkB s = true := by
 obtain ⟨i, h, e, a0, a1⟩ := l20_ev l hl n hn
 obtain ⟨x, i1, h1, e1, ⟨x0, x1⟩, b0, b1⟩ := below_some l i h 7 a0 a1 hl (by omega) (by omega)
 obtain ⟨d, rfl⟩ := Int.eq_ofNat_of_zero_le x0
 obtain ⟨s, i', h', es, ok⟩ := word_loop l hl d [] i1 h1 (by omega) (by simp; omega) (by simp) b0 b1
 refine ⟨s, Ev.same (fun k => by rw [spec_MakeWord.f]) (Ev.bind e ?_), ok⟩
 have e2 : Ev (fun k => spec_l05Word.f k l i h 6) (s, i', h') := by
  have e3 : spec_l01Below.f l i h (wrap64 ((6 : Int) + 1)) = some ((d : Int), i1, h1) := by rw [show wrap64 ((6 : Int) + 1) = 7 by rw [w64 (by omega) (by omega)]; rfl]; exact e1
  exact Ev.same (fun k => by rw [spec_l05Word.f]) (Ev.plain e3 es)
 exact Ev.bind e2 (Ev.now _)

end Go.Proofs.Ytlohmpgbjgidpaa.Q
namespace Go.Proofs.Ytlohmpgbjgidpaa.Pure
open Go.RowKit Go.Proofs.Ytlohmpgbjgidpaa.P Go.Proofs.YtlohmpgbjgidpaaW.PrintWords Go.Proofs.YtlohmpgbjgidpaaW.PrintLast Go.Proofs.Ytlohmpgbjgidpaa.Q

theorem run_some {r u : List Int} (h : IsSurf r u) {s : ByteArray} (w : wordOkB s = true) : runB r u s = ((runF s s.size 0 r u).1, (runF s s.size 0 r u).2, true) := by rw [runB, if_pos ⟨h.tr, w⟩]
theorem FnActions : laws_FnActions.Pure := by
 intro l _ _ _
 refine Ev.out ?_
 refine Ev.same (fun k => by rw [laws_FnActions.f]) ?_
 by_cases h : (l.length : Int) > 1048576
 ·exact Ev.pos h (Ev.now _)
 refine Ev.neg h ?_
 obtain ⟨r, u, e, s⟩ := MakeSurface_ev l (by omega)
 obtain ⟨w, ew, wo⟩ := MakeWord_ev l (by omega) 40 (by omega)
 have wl : w.size ≤ 40 ∧ allFrom letterP w 0 = true := by
  have := wo
  rwa [wordOkB, Bool.and_eq_true, decide_eq_true_eq] at this
 have le := s.le
 have leU := s.leU
 have same := s.same
 -- the runs
 have i1 := run_surf w w.size 0 s
 have iw : invWord w = ba (flipped w w.size) := by rw [invWord, if_pos wo]
 have il : (invWord w).size = w.size := by rw [iw, ba_size, flipped_length]
 have e1 : runB r u w = ((runF w w.size 0 r u).1, (runF w w.size 0 r u).2, true) := run_some s wo
 have e2 : runB (runF w w.size 0 r u).1 (runF w w.size 0 r u).2 (invWord w) = (r, u, true) := by
  have b := run_back w wl.2 s w.size (Nat.le_refl _)
  rw [Nat.sub_self] at b
  rw [run_some i1 (by rw [iw]; exact flipped_word w wo), il, iw, b]
 have e3 : runB r u (⟨#[83, 83, 83, 83]⟩ : ByteArray) = (r, u, true) := by
  rw [run_some s (by decide +kernel)]
  have : runF (⟨#[83, 83, 83, 83]⟩ : ByteArray) 4 0 r u = (r, u) := by
   show turnV (turnV (turnV (turnV r u).1 (turnV r u).2).1 (turnV (turnV r u).1 (turnV r u).2).2).1 (turnV (turnV (turnV r u).1 (turnV r u).2).1 (turnV (turnV r u).1 (turnV r u).2).2).2 = (r, u)
   simp only [turnV, invInv s.right, invInv s.up]
  rw [show (⟨#[83, 83, 83, 83]⟩ : ByteArray).size = 4 from rfl, this]
 have e5 : runB r u (⟨#[83, 83]⟩ : ByteArray) = (invL r, invL u, true) := by
  rw [run_some s (by decide +kernel)]
  rfl
 have i5 : IsSurf (invL r) (invL u) := turn_surf (turn_surf s)
 have e7 : runB r u (⟨#[84]⟩ : ByteArray) = ((shearV r u).1, (shearV r u).2, true) := by
  rw [run_some s (by decide +kernel)]
  rfl
 have f4 : runF (⟨#[83, 84, 83, 84, 83, 84]⟩ : ByteArray) 6 0 r u = (invL (thenL (thenL u r) (invL u)), thenL (thenL (thenL u r) (invL u)) (invL (thenL u r))) := by
  have G : IsPerm (thenL u r) := s.up.then s.right same.symm
  have lG : (thenL u r).length = r.length := by rw [thenL_length]; exact same.symm
  have H : IsPerm (thenL (thenL u r) (invL u)) := G.then s.up.inv (by rw [lG, invL_length]; exact same)
  have c1 : runF (⟨#[83, 84, 83, 84, 83, 84]⟩ : ByteArray) 2 0 r u = (invL u, thenL u r) := by
   show shearV (turnV r u).1 (turnV r u).2 = _
   simp only [turnV, shearV, invInv s.up]
  have c2 : runF (⟨#[83, 84, 83, 84, 83, 84]⟩ : ByteArray) 2 2 (invL u) (thenL u r) = (invL (thenL u r), thenL (thenL u r) (invL u)) := by
   show shearV (turnV (invL u) (thenL u r)).1 (turnV (invL u) (thenL u r)).2 = _
   simp only [turnV, shearV, invInv G]
  have c3 : runF (⟨#[83, 84, 83, 84, 83, 84]⟩ : ByteArray) 2 4 (invL (thenL u r)) (thenL (thenL u r) (invL u)) = (invL (thenL (thenL u r) (invL u)), thenL (thenL (thenL u r) (invL u)) (invL (thenL u r))) := by
   show shearV (turnV _ _).1 (turnV _ _).2 = _
   simp only [turnV, shearV, invInv H]
  have d1 : ∀ a b : List Int, runF (⟨#[83, 84, 83, 84, 83, 84]⟩ : ByteArray) 6 0 a b = runF (⟨#[83, 84, 83, 84, 83, 84]⟩ : ByteArray) 4 2 (runF (⟨#[83, 84, 83, 84, 83, 84]⟩ : ByteArray) 2 0 a b).1 (runF (⟨#[83, 84, 83, 84, 83, 84]⟩ : ByteArray) 2 0 a b).2 := fun _ _ => rfl
  have d2 : ∀ a b : List Int, runF (⟨#[83, 84, 83, 84, 83, 84]⟩ : ByteArray) 4 2 a b = runF (⟨#[83, 84, 83, 84, 83, 84]⟩ : ByteArray) 2 4 (runF (⟨#[83, 84, 83, 84, 83, 84]⟩ : ByteArray) 2 2 a b).1 (runF (⟨#[83, 84, 83, 84, 83, 84]⟩ : ByteArray) 2 2 a b).2 := fun _ _ => rfl
  rw [d1, c1, d2, c2, c3]
 have i4 : IsSurf (invL (thenL (thenL u r) (invL u))) (thenL (thenL (thenL u r) (invL u)) (invL (thenL u r))) := by
  have := run_surf (⟨#[83, 84, 83, 84, 83, 84]⟩ : ByteArray) 6 0 s
  rwa [f4] at this
 have e4 : runB r u (⟨#[83, 84, 83, 84, 83, 84]⟩ : ByteArray) = (invL (thenL (thenL u r) (invL u)), thenL (thenL (thenL u r) (invL u)) (invL (thenL u r)), true) := by
  rw [run_some s (by decide +kernel), show (⟨#[83, 84, 83, 84, 83, 84]⟩ : ByteArray).size = 6 from rfl, f4]
 have can := canon_along i5 i4 (along_six s) (s.up.then s.right same.symm).inv
 refine Ev.bind e (Ev.bind ew (Ev.bind (impl_RunWord_ev r u w (by omega)) ?_))
 rw [e1]
 refine Ev.bind (impl_InverseWord_ev w (by omega)) (Ev.bind (impl_RunWord_ev _ _ (invWord w) (by omega)) ?_)
 simp only
 rw [e2]
 refine Ev.bind (impl_RunWord_ev r u (⟨#[83, 83, 83, 83]⟩ : ByteArray) (by decide)) ?_
 rw [e3]
 refine Ev.bind (impl_RunWord_ev r u (⟨#[83, 84, 83, 84, 83, 84]⟩ : ByteArray) (by decide)) ?_
 rw [e4]
 refine Ev.bind (impl_RunWord_ev r u (⟨#[83, 83]⟩ : ByteArray) (by decide)) ?_
 rw [e5]
 refine Ev.bind (impl_ShearSurface_ev r u) ?_
 rw [act_ok s]
 refine Ev.bind (impl_RunWord_ev r u (⟨#[84]⟩ : ByteArray) (by decide)) ?_
 rw [e7]
 refine Ev.bind (impl_UnturnSurface_ev r u) ?_
 rw [act_ok s]
 refine Ev.bind (impl_TurnSurface_ev _ _) ?_
 simp only
 rw [act_ok (unturn_surf s), unturn_back s]
 refine Ev.bind (impl_UnshearSurface_ev _ _) ?_
 simp only
 rw [act_ok (shear_surf s), shear_back s]
 refine Ev.pos (by simp) (Ev.pos (by simp) (Ev.pos (by simp) (Ev.pos (by simp) (Ev.pos (by simp) (Ev.pos (by simp) (Ev.pos (by simp) (Ev.pos (by simp) (Ev.pos (by simp) (Ev.pos (by simp) ?_)))))))))
 refine Ev.bind (impl_WordOk_ev w (by omega)) ?_
 refine Ev.pos wo ?_
 refine Ev.bind (impl_SameSurface_ev r u r u (by omega) (by omega)) ?_
 rw [sameB_self]
 refine Ev.pos (by simp) ?_
 refine Ev.bind (impl_SameSurface_ev r u r u (by omega) (by omega)) ?_
 rw [sameB_self]
 refine Ev.pos (by simp) ?_
 refine Ev.bind (impl_AreIsomorphic_ev _ _ _ _) ?_
 simp only
 rw [i4.iso i5 can]
 refine Ev.pos (by simp) ?_
 have is := shear_surf s
 have isl := is.le
 have isu := is.leU
 refine Ev.bind (impl_SameSurface_ev _ _ _ _ (by omega) (by omega)) ?_
 rw [sameB_self]
 refine Ev.pos (by simp) ?_
 refine Ev.bind (impl_SameSurface_ev r u r u (by omega) (by omega)) ?_
 rw [sameB_self]
 refine Ev.pos (by simp) ?_
 refine Ev.bind (impl_SameSurface_ev r u r u (by omega) (by omega)) ?_
 rw [sameB_self]
 exact Ev.now _

end Go.Proofs.Ytlohmpgbjgidpaa.Pure
